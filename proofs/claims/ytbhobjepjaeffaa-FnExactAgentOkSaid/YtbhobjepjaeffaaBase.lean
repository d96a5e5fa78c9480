/-
  BASE: words for memory over any program. 'gro w os d': the world w with new blocks and draws alone. 'Ty': how a Go type's cells read as a Lean datum (R: anywhere below a block number; O: owned, with the list of its blocks). No program's text is named here.
-/
import Derived.WalkKit
import Derived.ProofKit
import Derived.OpenShut
import Derived.WalkSpells
import Derived.Below
import Derived.Carry
import Derived.ChangeOld
import Derived.Lib.Hide
import Derived.Maps.AppendAt
import Derived.Deep.AppendLies
import Derived.Deep.Draws
import Derived.Deep.Slices
import Derived.Deep.Fields
import Derived.Laws.OwnMore
import Derived.Laws.MakeOwn
import Derived.Laws.NewBlocks
import Derived.OwnWalk
set_option linter.unusedVariables false
set_option linter.unusedSimpArgs false
namespace Go.Proofs.Ytbhobjepjaeffaa
open Go.RowKit
/-! ### the world with new blocks and draws -/
def gro (w : World) (os : Array Obj) (d : Nat) : World := { w with heap := w.heap ++ os, drawn := d }
section
variable {w : World}
theorem gro_get (os : Array Obj) (d n : Nat) (hn : n < w.heap.size) : (gro w os d).heap[n]? = w.heap[n]? := by
  simp only [gro]
  exact Array.getElem?_append_left hn
@[simp, go_sem] theorem gro_size (os : Array Obj) (d : Nat) : (gro w os d).heap.size = w.heap.size + os.size := by simp [gro]
@[go_sem] theorem gro_tape (os : Array Obj) (d : Nat) : (gro w os d).tape = w.tape := rfl
@[go_sem] theorem gro_cell (os : Array Obj) (d n i : Nat) (hn : n < w.heap.size) : (gro w os d).cell? ⟨n, i, none⟩ = w.cell? ⟨n, i, none⟩ := by
  simp only [World.cell?, gro_get os d n hn]
@[go_sem] theorem gro_frozen (os : Array Obj) (d n i : Nat) (hn : n < w.heap.size) : (gro w os d).frozen? ⟨n, i, none⟩ = w.frozen? ⟨n, i, none⟩ := by
  simp only [World.frozen?, gro_get os d n hn]
@[go_sem] theorem gro_setCell (os : Array Obj) (d n i : Nat) (v : Value) (hn : n < w.heap.size) : (gro w os d).setCell ⟨n, i, none⟩ v = gro (w.setCell ⟨n, i, none⟩ v) os d := by
  unfold World.setCell gro
  congr 1
  apply Array.ext_getElem?
  intro k
  simp only [Array.getElem?_modify, Array.getElem?_append, Array.size_modify]
  by_cases hk : k = n
  · subst hk
    simp [hn]
  · have hk' : ¬ n = k := fun e => hk e.symm
    simp [hk']
theorem gro_alloc (os : Array Obj) (d : Nat) (o : Obj) : (gro w os d).alloc o = gro w (os.push o) d := by
  unfold gro World.alloc
  simp
theorem gro_gro (os os' : Array Obj) (d d' : Nat) : gro (gro w os d) os' d' = gro w (os ++ os') d' := by
  simp [gro]
theorem gro_drew (os : Array Obj) (d : Nat) : (gro w os d).drew = gro w os (d + 1) := rfl
@[go_sem] theorem gro_at_drew (os : Array Obj) (d : Nat) : gro w.drew os d = gro w os d := rfl
@[go_sem] theorem gro_at_drewN (n : Nat) (os : Array Obj) (d : Nat) : gro (w.drewN n) os d = gro w os d := rfl
theorem gro_of_alloc (o : Obj) : w.alloc o = gro w #[o] w.drawn := by
  unfold gro World.alloc
  simp
theorem gro_of_drew : w.drew = gro w #[] (w.drawn + 1) := by
  unfold gro World.drew
  simp
theorem gro_refl : w = gro w #[] w.drawn := by simp [gro]
end
@[go_sem] theorem lt_left_add {a b c : Nat} (h : a < b) : (a < b + c) = True := by simp; omega
@[go_sem] theorem setCell_drewN (w : World) (n : Nat) (p : Addr) (v : Value) : (w.drewN n).setCell p v = (w.setCell p v).drewN n := rfl
@[go_sem] theorem alloc_drewN (w : World) (n : Nat) (o : Obj) : (w.drewN n).alloc o = (w.alloc o).drewN n := rfl
/-- block n lies in w: shown by rules without conditions (simp's depth of conditions is small) -/
def InW (n : Nat) (w : World) : Prop := n < w.heap.size
@[go_sem] theorem inW_alloc (n : Nat) (w : World) (o : Obj) : InW n (w.alloc o) = (n = w.heap.size ∨ InW n w) := by
  unfold InW
  rw [World.size_alloc]
  exact propext ⟨fun h => by omega, fun h => by omega⟩
@[go_sem] theorem inW_gro (n : Nat) (w : World) (os : Array Obj) (d : Nat) : InW n (gro w os d) = (InW n w ∨ (w.heap.size ≤ n ∧ n < w.heap.size + os.size)) := by
  unfold InW
  rw [gro_size]
  exact propext ⟨fun h => by omega, fun h => by omega⟩
@[go_sem] theorem inW_drew (n : Nat) (w : World) : InW n w.drew = InW n w := rfl
@[go_sem] theorem inW_drewN (n k : Nat) (w : World) : InW n (w.drewN k) = InW n w := rfl
@[go_sem] theorem inW_setCell (n : Nat) (w : World) (p : Addr) (v : Value) : InW n (w.setCell p v) = InW n w := by
  unfold InW
  rw [World.size_setCell]
@[go_sem] theorem inW_of {n : Nat} {w : World} (h : n < w.heap.size) : InW n w = True := eq_true h
section
variable {w : World}
@[go_sem] theorem cell_alloc_in (o : Obj) (n i : Nat) (hn : InW n w) : (w.alloc o).cell? ⟨n, i, none⟩ = w.cell? ⟨n, i, none⟩ := World.cell?_alloc_past o n i hn
@[go_sem] theorem frozen_alloc_in (o : Obj) (n i : Nat) (hn : InW n w) : (w.alloc o).frozen? ⟨n, i, none⟩ = w.frozen? ⟨n, i, none⟩ := World.frozen?_alloc_past o n i hn
@[go_sem] theorem setCell_alloc_in (o : Obj) (n i : Nat) (v : Value) (hn : InW n w) : (w.alloc o).setCell ⟨n, i, none⟩ v = (w.setCell ⟨n, i, none⟩ v).alloc o := World.setCell_alloc_past o n i v hn
@[go_sem] theorem cell_gro_in (os : Array Obj) (d n i : Nat) (hn : InW n w) : (gro w os d).cell? ⟨n, i, none⟩ = w.cell? ⟨n, i, none⟩ := gro_cell os d n i hn
@[go_sem] theorem frozen_gro_in (os : Array Obj) (d n i : Nat) (hn : InW n w) : (gro w os d).frozen? ⟨n, i, none⟩ = w.frozen? ⟨n, i, none⟩ := gro_frozen os d n i hn
@[go_sem] theorem setCell_gro_in (os : Array Obj) (d n i : Nat) (v : Value) (hn : InW n w) : (gro w os d).setCell ⟨n, i, none⟩ v = gro (w.setCell ⟨n, i, none⟩ v) os d := gro_setCell os d n i v hn
end
/-- new blocks, draws, and nothing else -/
def Gro (w w' : World) : Prop := ∃ os d, w' = gro w os d
theorem Gro.refl (w : World) : Gro w w := ⟨_, _, gro_refl⟩
theorem Gro.refl_drew (a : World) (os : Array Obj) (d : Nat) : Gro (gro a.drew os d) (gro a os d) := Gro.refl (gro a os d)
theorem Gro.refl_drewN (a : World) (n : Nat) (os : Array Obj) (d : Nat) : Gro (gro (a.drewN n) os d) (gro a os d) := Gro.refl (gro a os d)
theorem Gro.of (w : World) (os : Array Obj) (d : Nat) : Gro w (gro w os d) := ⟨_, _, rfl⟩
theorem Gro.trans {a b c : World} (h : Gro a b) (k : Gro b c) : Gro a c := by
  obtain ⟨o, d, rfl⟩ := h
  obtain ⟨o', d', rfl⟩ := k
  exact ⟨_, _, gro_gro _ _ _ _⟩
theorem Gro.alloc {a b : World} (h : Gro a b) (o : Obj) : Gro a (b.alloc o) := h.trans ⟨_, _, gro_of_alloc o⟩
theorem Gro.drew {a b : World} (h : Gro a b) : Gro a b.drew := h.trans ⟨_, _, gro_of_drew⟩
theorem Gro.more {a b : World} (h : Gro a b) (os : Array Obj) (d : Nat) : Gro a (gro b os d) := h.trans ⟨_, _, rfl⟩
theorem Gro.size {a b : World} (h : Gro a b) : a.heap.size ≤ b.heap.size := by
  obtain ⟨o, d, rfl⟩ := h
  rw [gro_size]
  omega
theorem Gro.block {a b : World} (h : Gro a b) {k : Nat} (hk : k < a.heap.size) : b.heap[k]? = a.heap[k]? := by
  obtain ⟨o, d, rfl⟩ := h
  exact gro_get _ _ _ hk
theorem Gro.below {a b : World} (h : Gro a b) : Below a.heap.size a b := by
  obtain ⟨o, d, rfl⟩ := h
  exact ⟨rfl, rfl, rfl, by simp [gro], fun k hk => gro_get _ _ _ hk⟩
theorem Gro.of_below {a b : World} (h : Below a.heap.size a b) : Gro a b := by
  refine ⟨b.heap.extract a.heap.size b.heap.size, b.drawn, ?_⟩
  have hh : b.heap = a.heap ++ b.heap.extract a.heap.size b.heap.size := by
    apply Array.ext_getElem?
    intro k
    rw [Array.getElem?_append]
    split
    · rename_i hk
      exact h.block k hk
    · rename_i hk
      rw [Array.getElem?_extract]
      have := h.size
      split
      · congr 1
        omega
      · rw [Array.getElem?_eq_none]
        omega
  unfold gro
  rw [← hh]
  have h1 := h.os
  have h2 := h.tape
  have h3 := h.output
  cases a
  cases b
  simp only at h1 h2 h3
  subst h1 h2 h3
  rfl
/-- behind a law that ends in 'grownBy': the row that may have turned lies beyond W0 -/
theorem Gro.grown {W0 W w' : World} {row : Option Nat} (h : Gro W0 W) (hg : W.grownBy w' row) (hr : ∀ k, row = some k → W0.heap.size ≤ k) : Gro W0 w' :=
  Gro.of_below (h.below.grown hg h.size hr)
theorem Gro.setRow {W0 W : World} (h : Gro W0 W) {p : Addr} (hp : W0.heap.size ≤ p.block) (u : Value) : Gro W0 (W.setCell p u) :=
  Gro.of_below (h.below.setCell hp u)

/-- the blocks from n to m are the same -/
def Same (n m : Nat) (w w' : World) : Prop := ∀ k, n ≤ k → k < m → w'.heap[k]? = w.heap[k]?
theorem Same.refl (n m : Nat) (w : World) : Same n m w w := fun _ _ _ => rfl
theorem Same.base {a b : World} {os : Array Obj} {d d' n m : Nat} (h : b.heap.size = a.heap.size) (hn : a.heap.size ≤ n) : Same n m (gro a os d) (gro b os d') := by
  intro k hk _
  simp only [Go.Proofs.Ytbhobjepjaeffaa.gro]
  rw [Array.getElem?_append_right (by omega), Array.getElem?_append_right (by omega), h]
theorem Same.base_in {a b : World} {os : Array Obj} {d d' n m : Nat} {o o' : Obj} {os2 os3 : Array Obj} {d2 d3 : Nat} (h : b.heap.size = a.heap.size) (hn : a.heap.size ≤ n) (hm : m ≤ a.heap.size + os.size) :
    Same n m (Go.Proofs.Ytbhobjepjaeffaa.gro ((Go.Proofs.Ytbhobjepjaeffaa.gro a os d).alloc o) os2 d2) (Go.Proofs.Ytbhobjepjaeffaa.gro ((Go.Proofs.Ytbhobjepjaeffaa.gro b os d').alloc o') os3 d3) := by
  intro k hk hkm
  rw [gro_get _ _ _ (by simp; omega), gro_get _ _ _ (by simp; omega), Below.heap_alloc _ _ _ (by simp; omega), Below.heap_alloc _ _ _ (by simp; omega)]
  exact Same.base (m := m) h hn k hk hkm
theorem Same.more {n m : Nat} {a b : World} (h : Same n m a b) (hm : m ≤ b.heap.size) (os : Array Obj) (d : Nat) : Same n m a (Go.Proofs.Ytbhobjepjaeffaa.gro b os d) :=
  fun k h1 h2 => (gro_get os d k (by omega)).trans (h k h1 h2)
theorem Same.alloc {n m : Nat} {a b : World} (h : Same n m a b) (hm : m ≤ b.heap.size) (o : Obj) : Same n m a (b.alloc o) :=
  fun k h1 h2 => (Below.heap_alloc b o k (by omega)).trans (h k h1 h2)
theorem Same.drew {n m : Nat} {a b : World} (h : Same n m a b) : Same n m a b.drew := h
theorem Same.drewN {n m k : Nat} {a b : World} (h : Same n m a b) : Same n m a (b.drewN k) := h
theorem Same.gro {n : Nat} {a b : World} (h : Gro a b) : Same n a.heap.size a b := fun _ _ h2 => h.block h2
/-! ### only the blocks of S have turned -/
structure OnlyS (S : List Nat) (w w' : World) : Prop where
  os : w'.os = w.os
  tape : w'.tape = w.tape
  output : w'.output = w.output
  size : w.heap.size ≤ w'.heap.size
  block : ∀ k, k < w.heap.size → k ∉ S → w'.heap[k]? = w.heap[k]?
theorem OnlyS.refl (S : List Nat) (w : World) : OnlyS S w w := ⟨rfl, rfl, rfl, Nat.le_refl _, fun _ _ _ => rfl⟩
theorem OnlyS.trans {S : List Nat} {a b c : World} (h : OnlyS S a b) (k : OnlyS S b c) : OnlyS S a c :=
  ⟨k.os.trans h.os, k.tape.trans h.tape, k.output.trans h.output, Nat.le_trans h.size k.size, fun i hi hn => (k.block i (Nat.lt_of_lt_of_le hi h.size) hn).trans (h.block i hi hn)⟩
theorem OnlyS.mono {S S' : List Nat} {a b : World} (h : OnlyS S a b) (hs : ∀ k ∈ S, k ∈ S') : OnlyS S' a b :=
  ⟨h.os, h.tape, h.output, h.size, fun i hi hn => h.block i hi (fun hm => hn (hs i hm))⟩
theorem Gro.only {a b : World} (h : Gro a b) (S : List Nat) : OnlyS S a b := by
  have hb := h.below
  exact ⟨hb.os, hb.tape, hb.output, hb.size, fun k hk _ => hb.block k hk⟩
theorem OnlyS.setCell {S : List Nat} {a b : World} (h : OnlyS S a b) {p : Addr} (hp : p.block ∈ S) (u : Value) : OnlyS S a (b.setCell p u) :=
  h.trans ⟨rfl, rfl, rfl, by simp, fun k _ hn => Below.heap_setCell _ _ _ _ (fun e => hn (by rw [e]; exact hp))⟩
theorem OnlyS.cell {S : List Nat} {a b : World} (h : OnlyS S a b) {g : Nat} (hg : g < a.heap.size) (hn : g ∉ S) (i : Nat) : b.cell? ⟨g, i, none⟩ = a.cell? ⟨g, i, none⟩ :=
  World.cell?_of_block (h.block g hg hn)
theorem OnlyS.frozen {S : List Nat} {a b : World} (h : OnlyS S a b) {g : Nat} (hg : g < a.heap.size) (hn : g ∉ S) (i : Nat) : b.frozen? ⟨g, i, none⟩ = a.frozen? ⟨g, i, none⟩ :=
  World.frozen?_of_block (h.block g hg hn)
theorem OnlyS.gro {S : List Nat} {W0 a b : World} (h : OnlyS S a b) (hg : Gro W0 a) (hs : ∀ k ∈ S, W0.heap.size ≤ k) : Gro W0 b :=
  Gro.of_below ⟨h.os.trans hg.below.os, h.tape.trans hg.below.tape, h.output.trans hg.below.output, Nat.le_trans hg.size h.size, fun k hk =>
    (h.block k (Nat.lt_of_lt_of_le hk hg.size) (fun hm => by have := hs k hm; omega)).trans (hg.block hk)⟩

/-! ### how a Go type's cells read -/
structure Ty (α : Type) where
  size : Nat
  R : World → Nat → List Value → α → Prop
  O : World → List Value → α → List Nat → Prop
  lenR : ∀ {w B cs x}, R w B cs x → cs.length = size
  lenO : ∀ {w cs x S}, O w cs x S → cs.length = size
  oneO : ∀ {w cs x S}, O w cs x S → ∀ u ∈ cs, u.oneCell' = true
  oneR : ∀ {w B cs x}, R w B cs x → ∀ u ∈ cs, u.oneCell' = true
  keepR : ∀ {w w' B B' cs x}, R w B cs x → (∀ k, k < B → w'.heap[k]? = w.heap[k]?) → B ≤ B' → R w' B' cs x
  keepO : ∀ {w w' cs x S}, O w cs x S → (∀ k ∈ S, w'.heap[k]? = w.heap[k]?) → O w' cs x S
  ltO : ∀ {w cs x S}, O w cs x S → ∀ k ∈ S, k < w.heap.size
  OR : ∀ {w cs x S B}, O w cs x S → (∀ k ∈ S, k < B) → R w B cs x
theorem Ty.gro {α : Type} (T : Ty α) {w w' : World} {B : Nat} {cs : List Value} {x : α} (h : T.R w B cs x) (hg : Gro w w') (hB : B ≤ w.heap.size) : T.R w' B cs x :=
  T.keepR h (fun _ hk => hg.block (by omega)) (Nat.le_refl _)
theorem Ty.up {α : Type} (T : Ty α) {w w' : World} {cs : List Value} {x : α} (h : T.R w w.heap.size cs x) (hg : Gro w w') : T.R w' w'.heap.size cs x :=
  T.keepR h (fun _ hk => hg.block hk) hg.size
theorem Ty.groO {α : Type} (T : Ty α) {w w' : World} {cs : List Value} {x : α} {S : List Nat} (h : T.O w cs x S) (hg : Gro w w') : T.O w' cs x S :=
  T.keepO h fun _ hk => hg.block (T.ltO h _ hk)
theorem Ty.same {α : Type} (T : Ty α) {w w' : World} {cs : List Value} {x : α} {S : List Nat} {n : Nat} (h : T.O w cs x S) (hL : ∀ b ∈ S, n ≤ b) (hs : Same n w.heap.size w w') : T.O w' cs x S :=
  T.keepO h fun k hk => hs k (hL k hk) (T.ltO h k hk)
theorem Ty.read {α : Type} (T : Ty α) {w : World} {cs : List Value} {x : α} {S : List Nat} (h : T.O w cs x S) : T.R w w.heap.size cs x := T.OR h (T.ltO h)

/-- fits int64 -/
def I64 (x : Int) : Prop := -9223372036854775808 ≤ x ∧ x ≤ 9223372036854775807
/-- an int -/
def intT : Ty Int where
  size := 1
  R := fun _ _ cs x => cs = [.int .i64 x] ∧ -9223372036854775808 ≤ x ∧ x ≤ 9223372036854775807
  O := fun _ cs x S => cs = [.int .i64 x] ∧ -9223372036854775808 ≤ x ∧ x ≤ 9223372036854775807 ∧ S = []
  lenR := by rintro _ _ _ _ ⟨rfl, _⟩; rfl
  lenO := by rintro _ _ _ _ ⟨rfl, _⟩; rfl
  oneO := by rintro _ _ _ _ ⟨rfl, _⟩ u hu; simp at hu; subst hu; rfl
  oneR := by rintro _ _ _ _ ⟨rfl, _⟩ u hu; simp at hu; subst hu; rfl
  keepR := by rintro _ _ _ _ _ _ h _ _; exact h
  keepO := by rintro _ _ _ _ _ h _; exact h
  ltO := by rintro _ _ _ _ ⟨_, _, _, rfl⟩ k hk; simp at hk
  OR := by rintro _ _ _ _ _ ⟨h1, h2, h3, _⟩ _; exact ⟨h1, h2, h3⟩
/-- a bool -/
def boolT : Ty Bool where
  size := 1
  R := fun _ _ cs x => cs = [.bool x]
  O := fun _ cs x S => cs = [.bool x] ∧ S = []
  lenR := by rintro _ _ _ _ rfl; rfl
  lenO := by rintro _ _ _ _ ⟨rfl, _⟩; rfl
  oneO := by rintro _ _ _ _ ⟨rfl, _⟩ u hu; simp at hu; subst hu; rfl
  oneR := by rintro _ _ _ _ rfl u hu; simp at hu; subst hu; rfl
  keepR := by rintro _ _ _ _ _ _ h _ _; exact h
  keepO := by rintro _ _ _ _ _ h _; exact h
  ltO := by rintro _ _ _ _ ⟨_, rfl⟩ k hk; simp at hk
  OR := by rintro _ _ _ _ _ ⟨h1, _⟩ _; exact h1
/-- a string -/
def strT : Ty ByteArray where
  size := 1
  R := fun _ _ cs x => cs = [.string x] ∧ x.size ≤ 9223372036854775807
  O := fun _ cs x S => cs = [.string x] ∧ x.size ≤ 9223372036854775807 ∧ S = []
  lenR := by rintro _ _ _ _ ⟨rfl, _⟩; rfl
  lenO := by rintro _ _ _ _ ⟨rfl, _⟩; rfl
  oneO := by rintro _ _ _ _ ⟨rfl, _⟩ u hu; simp at hu; subst hu; rfl
  oneR := by rintro _ _ _ _ ⟨rfl, _⟩ u hu; simp at hu; subst hu; rfl
  keepR := by rintro _ _ _ _ _ _ h _ _; exact h
  keepO := by rintro _ _ _ _ _ h _; exact h
  ltO := by rintro _ _ _ _ ⟨_, _, rfl⟩ k hk; simp at hk
  OR := by rintro _ _ _ _ _ ⟨h1, h2, _⟩ _; exact ⟨h1, h2⟩
/-- two fields, one behind the other -/
def Ty.prod {α β : Type} (T : Ty α) (U : Ty β) : Ty (α × β) where
  size := T.size + U.size
  R := fun w B cs x => ∃ c1 c2, cs = c1 ++ c2 ∧ T.R w B c1 x.1 ∧ U.R w B c2 x.2
  O := fun w cs x S => ∃ c1 c2 S1 S2, cs = c1 ++ c2 ∧ S = S1 ++ S2 ∧ T.O w c1 x.1 S1 ∧ U.O w c2 x.2 S2
  lenR := by rintro _ _ _ _ ⟨c1, c2, rfl, h1, h2⟩; simp [T.lenR h1, U.lenR h2]
  lenO := by rintro _ _ _ _ ⟨c1, c2, _, _, rfl, _, h1, h2⟩; simp [T.lenO h1, U.lenO h2]
  oneO := by
    rintro _ _ _ _ ⟨c1, c2, _, _, rfl, _, h1, h2⟩ u hu
    rcases List.mem_append.1 hu with hu | hu
    · exact T.oneO h1 u hu
    · exact U.oneO h2 u hu
  oneR := by
    rintro _ _ _ _ ⟨c1, c2, rfl, h1, h2⟩ u hu
    rcases List.mem_append.1 hu with hu | hu
    · exact T.oneR h1 u hu
    · exact U.oneR h2 u hu
  keepR := by rintro _ _ _ _ _ _ ⟨c1, c2, rfl, h1, h2⟩ hk hB; exact ⟨c1, c2, rfl, T.keepR h1 hk hB, U.keepR h2 hk hB⟩
  keepO := by
    rintro _ _ _ _ _ ⟨c1, c2, S1, S2, rfl, rfl, h1, h2⟩ hk
    exact ⟨c1, c2, S1, S2, rfl, rfl, T.keepO h1 (fun k hk1 => hk k (List.mem_append_left _ hk1)), U.keepO h2 (fun k hk2 => hk k (List.mem_append_right _ hk2))⟩
  ltO := by
    rintro _ _ _ _ ⟨c1, c2, S1, S2, rfl, rfl, h1, h2⟩ k hk
    rcases List.mem_append.1 hk with hk | hk
    · exact T.ltO h1 k hk
    · exact U.ltO h2 k hk
  OR := by
    rintro _ _ _ _ _ ⟨c1, c2, S1, S2, rfl, rfl, h1, h2⟩ hk
    exact ⟨c1, c2, rfl, T.OR h1 (fun k hk1 => hk k (List.mem_append_left _ hk1)), U.OR h2 (fun k hk2 => hk k (List.mem_append_right _ hk2))⟩
/-- the same cells, read as another datum -/
def Ty.via {α β : Type} (T : Ty α) (f : β → α) : Ty β where
  size := T.size
  R := fun w B cs x => T.R w B cs (f x)
  O := fun w cs x S => T.O w cs (f x) S
  lenR := T.lenR
  lenO := T.lenO
  oneO := T.oneO
  oneR := T.oneR
  keepR := T.keepR
  keepO := T.keepO
  ltO := T.ltO
  OR := T.OR
/-- rows of elements, one behind the other, as owned cells -/
def Rows {α : Type} (T : Ty α) (w : World) : List Value → List α → List Nat → Prop
  | cs, [], S => cs = [] ∧ S = []
  | cs, x :: xs, S => ∃ c1 c2 S1 S2, cs = c1 ++ c2 ∧ S = S1 ++ S2 ∧ T.O w c1 x S1 ∧ Rows T w c2 xs S2
section
variable {α : Type} {T : Ty α} {w w' : World}
theorem Rows.len : ∀ {xs : List α} {cs : List Value} {S : List Nat}, Rows T w cs xs S → cs.length = xs.length * T.size
  | [], _, _, h => by simp [h.1]
  | x :: xs, _, _, ⟨c1, c2, S1, S2, h1, _, h3, h4⟩ => by
    subst h1
    rw [List.length_append, T.lenO h3, Rows.len h4, List.length_cons, Nat.add_mul, Nat.one_mul, Nat.add_comm]
theorem Rows.one : ∀ {xs : List α} {cs : List Value} {S : List Nat}, Rows T w cs xs S → ∀ u ∈ cs, u.oneCell' = true
  | [], _, _, h => by simp [h.1]
  | x :: xs, _, _, ⟨c1, c2, S1, S2, h1, _, h3, h4⟩ => by
    subst h1
    intro u hu
    rcases List.mem_append.1 hu with hu | hu
    · exact T.oneO h3 u hu
    · exact Rows.one h4 u hu
theorem Rows.keep : ∀ {xs : List α} {cs : List Value} {S : List Nat}, Rows T w cs xs S → (∀ k ∈ S, w'.heap[k]? = w.heap[k]?) → Rows T w' cs xs S
  | [], _, _, h, _ => h
  | x :: xs, _, _, ⟨c1, c2, S1, S2, h1, h2, h3, h4⟩, hk => by
    subst h2
    exact ⟨c1, c2, S1, S2, h1, rfl, T.keepO h3 (fun k hk1 => hk k (List.mem_append_left _ hk1)), Rows.keep h4 (fun k hk2 => hk k (List.mem_append_right _ hk2))⟩
theorem Rows.lt : ∀ {xs : List α} {cs : List Value} {S : List Nat}, Rows T w cs xs S → ∀ k ∈ S, k < w.heap.size
  | [], _, _, h => by simp [h.2]
  | x :: xs, _, _, ⟨c1, c2, S1, S2, h1, h2, h3, h4⟩ => by
    subst h2
    intro k hk
    rcases List.mem_append.1 hk with hk | hk
    · exact T.ltO h3 k hk
    · exact Rows.lt h4 k hk
theorem Rows.snoc : ∀ {xs : List α} {cs : List Value} {S : List Nat}, Rows T w cs xs S → ∀ {c : List Value} {x : α} {S' : List Nat}, T.O w c x S' → Rows T w (cs ++ c) (xs ++ [x]) (S ++ S')
  | [], _, _, h, c, x, S', hx => by
    obtain ⟨rfl, rfl⟩ := h
    exact ⟨c, [], S', [], by simp, by simp, hx, rfl, rfl⟩
  | y :: ys, _, _, ⟨c1, c2, S1, S2, h1, h2, h3, h4⟩, c, x, S', hx => by
    subst h1 h2
    exact ⟨c1, c2 ++ c, S1, S2 ++ S', by simp, by simp, h3, Rows.snoc h4 hx⟩
theorem Rows.app : ∀ {xs : List α} {cs : List Value} {S : List Nat}, Rows T w cs xs S → ∀ {ys : List α} {ds : List Value} {S' : List Nat}, Rows T w ds ys S' → Rows T w (cs ++ ds) (xs ++ ys) (S ++ S')
  | [], _, _, h, ys, ds, S', hy => by
    obtain ⟨rfl, rfl⟩ := h
    simpa using hy
  | x :: xs, _, _, ⟨c1, c2, S1, S2, h1, h2, h3, h4⟩, ys, ds, S', hy => by
    subst h1 h2
    exact ⟨c1, c2 ++ ds, S1, S2 ++ S', by simp, by simp, h3, Rows.app h4 hy⟩
/-- parted at the k-th element -/
theorem Rows.part : ∀ {k : Nat} {xs : List α} {cs : List Value} {S : List Nat}, Rows T w cs xs S → ∀ {x : α}, xs[k]? = some x →
    ∃ a c b Sa Sc Sb, cs = a ++ (c ++ b) ∧ S = Sa ++ (Sc ++ Sb) ∧ a.length = k * T.size ∧ Rows T w a (xs.take k) Sa ∧ T.O w c x Sc ∧ Rows T w b (xs.drop (k + 1)) Sb
  | _, [], _, _, _, x, hx => by simp at hx
  | 0, y :: ys, _, _, ⟨c1, c2, S1, S2, h1, h2, h3, h4⟩, x, hx => by
    simp at hx
    subst hx
    exact ⟨[], c1, c2, [], S1, S2, by simp [h1], by simp [h2], by simp, ⟨rfl, rfl⟩, h3, by simpa using h4⟩
  | k + 1, y :: ys, _, _, ⟨c1, c2, S1, S2, h1, h2, h3, h4⟩, x, hx => by
    obtain ⟨a, c, b, Sa, Sc, Sb, e1, e2, e3, ha, hc, hb⟩ := Rows.part h4 (k := k) (x := x) (by simpa using hx)
    subst h1 h2 e1 e2
    refine ⟨c1 ++ a, c, b, S1 ++ Sa, Sc, Sb, by simp, by simp, ?_, ?_, hc, ?_⟩
    · rw [List.length_append, T.lenO h3, e3, Nat.add_mul, Nat.one_mul, Nat.add_comm]
    · exact ⟨c1, a, S1, Sa, rfl, rfl, h3, ha⟩
    · simpa using hb
/-- the k-th element is another -/
theorem Rows.join {k : Nat} {xs : List α} {a c b : List Value} {Sa Sc Sb : List Nat} {x y : α} (hx : xs[k]? = some x) (ha : Rows T w a (xs.take k) Sa) (hc : T.O w c y Sc) (hb : Rows T w b (xs.drop (k + 1)) Sb) :
    Rows T w (a ++ (c ++ b)) (xs.set k y) (Sa ++ (Sc ++ Sb)) := by
  have hk : k < xs.length := (List.getElem?_eq_some_iff.1 hx).1
  have e : xs.set k y = xs.take k ++ ([y] ++ xs.drop (k + 1)) := by
    rw [List.set_eq_take_append_cons_drop, if_pos hk]; rfl
  rw [e]
  exact Rows.app ha (Rows.app (show Rows T w c [y] Sc from ⟨c, [], Sc, [], by simp, by simp, hc, rfl, rfl⟩) hb)
theorem Rows.get {k : Nat} {xs : List α} {cs : List Value} {S : List Nat} (h : Rows T w cs xs S) {x : α} (hx : xs[k]? = some x) :
    ∃ c Sc, T.O w c x Sc ∧ (∀ j ∈ Sc, j ∈ S) ∧ ∀ j u, c[j]? = some u → cs[k * T.size + j]? = some u := by
  obtain ⟨a, c, b, Sa, Sc, Sb, rfl, rfl, hl, _, hc, _⟩ := h.part hx
  refine ⟨c, Sc, hc, fun j hj => by simp [hj], fun j u hu => ?_⟩
  rw [List.getElem?_append_right (by omega), hl, Nat.add_sub_cancel_left, List.getElem?_append_left (List.getElem?_eq_some_iff.1 hu).1]
  exact hu
end
def blockOf : Option Addr → List Nat
  | some a => [a.block]
  | none => []
/-- a slice of such elements; e: the element type's number -/
def Ty.sl {α : Type} (T : Ty α) (e : TypeId) : Ty (List α) where
  size := 1
  R := fun w B cs xs => ∃ A c, cs = [.slice A xs.length c] ∧ xs.length ≤ c ∧ c ≤ 9223372036854775807 ∧ (A = none → c = 0) ∧
    (0 < xs.length → ∃ g off, A = some ⟨g, off, none⟩ ∧ g < B ∧ ∀ i x, xs[i]? = some x → ∃ ec, T.R w B ec x ∧ ∀ j u, ec[j]? = some u → w.cell? ⟨g, off + i * T.size + j, none⟩ = some u)
  O := fun w cs xs S => ∃ A c ecs S', cs = [.slice A xs.length c] ∧ w.ownsRow 0 e T.size (.slice A xs.length c) xs.length ecs ∧ Rows T w ecs xs S' ∧ S = blockOf A ++ S'
  lenR := by rintro _ _ _ _ ⟨A, c, rfl, _⟩; rfl
  lenO := by rintro _ _ _ _ ⟨A, c, _, _, rfl, _⟩; rfl
  oneO := by rintro _ _ _ _ ⟨A, c, _, _, rfl, _⟩ u hu; simp at hu; subst hu; rfl
  oneR := by rintro _ _ _ _ ⟨A, c, rfl, _⟩ u hu; simp at hu; subst hu; rfl
  keepR := by
    rintro w w' B B' cs xs ⟨A, c, rfl, h1, h2, h3, h4⟩ hk hB
    refine ⟨A, c, rfl, h1, h2, h3, fun hp => ?_⟩
    obtain ⟨g, off, rfl, hg, h5⟩ := h4 hp
    refine ⟨g, off, rfl, by omega, fun i x hx => ?_⟩
    obtain ⟨ec, h6, h7⟩ := h5 i x hx
    exact ⟨ec, T.keepR h6 hk hB, fun j u hu => (World.cell?_of_block (hk g hg)).trans (h7 j u hu)⟩
  keepO := by
    rintro w w' cs xs S ⟨A, c, ecs, S', rfl, h1, h2, rfl⟩ hk
    refine ⟨A, c, ecs, S', rfl, ?_, Rows.keep h2 (fun k hk' => hk k (List.mem_append_right _ hk')), rfl⟩
    refine ⟨h1.1, ?_⟩
    rcases h1.2 with h | ⟨g, cap, cur, hv, hb, hg, rest⟩
    · exact .inl h
    · have hv' := hv
      injection hv' with hA _ _
      subst hA
      exact .inr ⟨g, cap, cur, hv, hb, (hk g (by simp [blockOf])).trans hg, rest⟩
  ltO := by
    rintro w cs xs S ⟨A, c, ecs, S', rfl, h1, h2, rfl⟩ k hk
    rcases List.mem_append.1 hk with hk | hk
    · cases A with
      | none => simp [blockOf] at hk
      | some a =>
        simp [blockOf] at hk
        exact (h1.lt k (by simp [Value.ownBlock, hk])).2
    · exact Rows.lt h2 k hk
  OR := by
    rintro w cs xs S B ⟨A, c, ecs, S', rfl, h1, h2, rfl⟩ hk
    obtain ⟨hlen, hrest⟩ := h1
    rcases hrest with ⟨hv, hn⟩ | ⟨g, cap, cur, hv, _, hg, hnc, hcm, hcs, htake⟩
    · injection hv with hA _ hc
      subst hA hc
      exact ⟨none, 0, rfl, by omega, Nat.zero_le _, fun _ => rfl, fun hp => by omega⟩
    · injection hv with hA _ hc
      subst hA hc
      refine ⟨_, _, rfl, hnc, by simpa [maxLen] using hcm, fun h => by simp at h, fun _ => ⟨g, 0, rfl, hk g (by simp [blockOf]), fun i x hx => ?_⟩⟩
      obtain ⟨ec, Sc, hO, hS, hget⟩ := Rows.get h2 hx
      refine ⟨ec, T.OR hO (fun k hk' => hk k (List.mem_append_right _ (hS k hk'))), fun j u hu => ?_⟩
      rw [cell_of_row w g _ cur e (0, 0) hg, Nat.zero_add]
      have hj := hget j u hu
      rw [← htake, List.getElem?_take] at hj
      split at hj
      · simpa using hj
      · cases hj
theorem sl_at {α : Type} {T : Ty α} {e : TypeId} {w : World} {B : Nat} {v : Value} {xs : List α} (h : (T.sl e).R w B [v] xs) : ∃ A c, v = .slice A xs.length c ∧ xs.length ≤ c ∧ c ≤ 9223372036854775807 := by
  obtain ⟨A, c, h1, h2, h3, _⟩ := h
  exact ⟨A, c, by simpa using h1, h2, h3⟩
/-- one element of a list, as the walk wants it -/
theorem elem_at {α : Type} {T : Ty α} {e : TypeId} {w : World} {B : Nat} {A : Option Addr} {n c : Nat} {xs : List α} (h : (T.sl e).R w B [.slice A n c] xs) {k : Nat} (hk : k < xs.length) :
    ∃ g off x ec, A = some ⟨g, off, none⟩ ∧ g < B ∧ xs[k]? = some x ∧ T.R w B ec x ∧ ∀ j u, ec[j]? = some u → w.cell? ⟨g, off + k * T.size + j, none⟩ = some u := by
  obtain ⟨A', c', h1, _, _, _, h5⟩ := h
  obtain ⟨g, off, rfl, hg, h6⟩ := h5 (by omega)
  injection h1 with h1 _
  injection h1 with h1 _ _
  have hx : xs[k]? = some xs[k] := List.getElem?_eq_getElem hk
  obtain ⟨ec, h7, h8⟩ := h6 k _ hx
  exact ⟨g, off, xs[k], ec, h1, hg, hx, h7, h8⟩
theorem ints_at {e : TypeId} {w : World} {B : Nat} {A : Option Addr} {n c : Nat} {xs : List Int} (h : (intT.sl e).R w B [.slice A n c] xs) {k : Nat} (hk : k < xs.length) :
    ∃ g off x, A = some ⟨g, off, none⟩ ∧ xs[k]? = some x ∧ w.cell? ⟨g, off + k, none⟩ = some (.int .i64 x) ∧ -9223372036854775808 ≤ x ∧ x ≤ 9223372036854775807 := by
  obtain ⟨g, off, x, ec, h1, _, h2, ⟨rfl, b1, b2⟩, h4⟩ := elem_at h hk
  have := h4 0 _ rfl
  simp only [intT, Nat.mul_one, Nat.add_zero] at this
  exact ⟨g, off, x, h1, h2, this, b1, b2⟩
theorem strs_at {e : TypeId} {w : World} {B : Nat} {A : Option Addr} {n c : Nat} {xs : List ByteArray} (h : (strT.sl e).R w B [.slice A n c] xs) {k : Nat} (hk : k < xs.length) :
    ∃ g off x, A = some ⟨g, off, none⟩ ∧ xs[k]? = some x ∧ w.cell? ⟨g, off + k, none⟩ = some (.string x) ∧ x.size ≤ 9223372036854775807 := by
  obtain ⟨g, off, x, ec, h1, _, h2, ⟨rfl, b1⟩, h4⟩ := elem_at h hk
  have := h4 0 _ rfl
  simp only [strT, Nat.mul_one, Nat.add_zero] at this
  exact ⟨g, off, x, h1, h2, this, b1⟩
theorem heap_setCell_at {w : World} {g : Nat} {cur : Array Value} {e : TypeId} (hg : w.heap[g]? = some (.cells cur e (0, 0))) (i : Nat) (u : Value) : (w.setCell ⟨g, i, none⟩ u).heap[g]? = some (.cells (cur.setIfInBounds i u) e (0, 0)) := by
  simp [World.setCell, Array.getElem?_modify, hg]
/-- one element of an owned list: its cells, as they stand; and what a store into it leaves -/
theorem own_elem {α : Type} {T : Ty α} {e : TypeId} {w : World} {A : Option Addr} {n c : Nat} {xs : List α} {S : List Nat} (h : (T.sl e).O w [.slice A n c] xs S) (hS : S.Nodup) {k : Nat} {x : α} (hx : xs[k]? = some x) :
    ∃ g ec Sc, A = some ⟨g, 0, none⟩ ∧ g ∈ S ∧ g < w.heap.size ∧ g ∉ Sc ∧ (∀ j ∈ Sc, j ∈ S) ∧ Sc.Nodup ∧ T.O w ec x Sc ∧ (∀ j, w.frozen? ⟨g, j, none⟩ = false) ∧ (∀ j u, ec[j]? = some u → w.cell? ⟨g, k * T.size + j, none⟩ = some u) ∧
      (∀ j u y, j < T.size → u.oneCell' = true → T.O w (ec.set j u) y Sc → (T.sl e).O (w.setCell ⟨g, k * T.size + j, none⟩ u) [.slice A n c] (xs.set k y) S ∧ OnlyS S w (w.setCell ⟨g, k * T.size + j, none⟩ u)) ∧
      (∀ w' y, OnlyS Sc w w' → T.O w' ec y Sc → (T.sl e).O w' [.slice A n c] (xs.set k y) S) := by
  obtain ⟨A', c', ecs, S', h1, h2, h3, rfl⟩ := h
  injection h1 with h1 _
  injection h1 with hA hn hc
  subst hA hn hc
  have hk : k < xs.length := (List.getElem?_eq_some_iff.1 hx).1
  obtain ⟨a, ec, b, Sa, Sc, Sb, rfl, rfl, hl, ha, hO, hb⟩ := Rows.part h3 hx
  obtain ⟨hlen, hrest⟩ := h2
  rcases hrest with ⟨_, hn⟩ | ⟨g, cap, cur, hv, hbase, hg, hnc, hcm, hcs, htake⟩
  · omega
  · injection hv with hA _ hc
    subst hA hc
    have hgl : g < w.heap.size := (Array.getElem?_eq_some_iff.1 hg).1
    simp only [blockOf, List.singleton_append, List.nodup_cons, List.nodup_append, List.mem_append, not_or] at hS
    obtain ⟨⟨hga, hgc, hgb⟩, hna, ⟨hncd, hnb, hdcb⟩, hda⟩ := hS
    have hec : ec.length = T.size := T.lenO hO
    have hlc : (a ++ (ec ++ b)).length ≤ cur.size := by
      rw [← htake, List.length_take]
      have : cur.toList.length = cur.size := Array.length_toList
      omega
    have hcell : ∀ (j : Nat) (u : Value), (a ++ (ec ++ b))[j]? = some u → cur[j]? = some u := by
      intro j u hu
      rw [← htake, List.getElem?_take] at hu
      split at hu
      · simpa using hu
      · cases hu
    refine ⟨g, ec, Sc, rfl, by simp [blockOf], hgl, hgc, fun j hj => by simp [hj], hncd, hO, fun j => by simp [World.frozen?, hg], fun j u hu => ?_, fun j u y hj h1 hy => ?_, fun w' y ho hy => ?_⟩
    · rw [cell_of_row w g _ cur e (0, 0) hg]
      apply hcell
      rw [List.getElem?_append_right (by omega), hl, Nat.add_sub_cancel_left, List.getElem?_append_left (List.getElem?_eq_some_iff.1 hu).1]
      exact hu
    · have hother : ∀ i, i ≠ g → (w.setCell ⟨g, k * T.size + j, none⟩ u).heap[i]? = w.heap[i]? := fun i hi => Below.heap_setCell w _ u i hi
      refine ⟨⟨some ⟨g, 0, none⟩, c, a ++ (ec.set j u ++ b), _, by rw [List.length_set], ⟨?_, .inr ⟨g, c, cur.setIfInBounds (k * T.size + j) u, by rw [List.length_set], hbase, heap_setCell_at hg _ _, by simpa using hnc, hcm, by simpa using hcs, ?_⟩⟩, Rows.join hx (Rows.keep ha ?_) (T.keepO hy ?_) (Rows.keep hb ?_), rfl⟩, ?_⟩
      · rw [List.length_set, ← hlen]
        simp
      · rw [List.length_set, Array.toList_setIfInBounds, List.take_set, htake, List.set_append_right _ _ (by omega), hl, Nat.add_sub_cancel_left, List.set_append_left _ _ (by omega)]
      · exact fun i hi => hother i (fun e => hga (e ▸ hi))
      · exact fun i hi => hother i (fun e => hgc (e ▸ hi))
      · exact fun i hi => hother i (fun e => hgb (e ▸ hi))
      · exact (OnlyS.refl _ _).setCell (by simp [blockOf]) u
    · have hk' : ∀ i, i < w.heap.size → i ∉ Sc → w'.heap[i]? = w.heap[i]? := ho.block
      refine ⟨some ⟨g, 0, none⟩, c, a ++ (ec ++ b), _, by rw [List.length_set], ⟨by rw [List.length_set, ← hlen], .inr ⟨g, c, cur, by rw [List.length_set], hbase, (hk' g hgl hgc).trans hg, by simpa using hnc, hcm, hcs, by rw [List.length_set]; exact htake⟩⟩, Rows.join hx (Rows.keep ha ?_) hy (Rows.keep hb ?_), rfl⟩
      · exact fun i hi => hk' i (Rows.lt ha i hi) (fun hc => hda i hi i (.inl hc) rfl)
      · exact fun i hi => hk' i (Rows.lt hb i hi) (fun hc => hdcb i hc i hi rfl)
theorem gro_of_drewN (w : World) (n : Nat) : Gro w (w.drewN n) := by
  induction n with
  | zero => exact Gro.refl _
  | succ n ih => exact ih.drew
theorem Gro.drewN {a b : World} (h : Gro a b) (n : Nat) : Gro a (b.drewN n) := h.trans (gro_of_drewN _ _)
theorem take_snoc {α : Type} {xs : List α} {k : Nat} {x : α} (h : xs[k]? = some x) : xs.take (k + 1) = xs.take k ++ [x] := by
  rw [List.take_add_one, h]; rfl
theorem gro_keeps {w : World} {a : Addr} {v : Value} (h : w.cell? a = some v) (os : Array Obj) (d : Nat) : (gro w os d).cell? a = some v := by
  have hb := World.block_lt_of_cell? w a h
  rw [← h]
  simp only [World.cell?, gro_get os d _ hb]
theorem alloc_keeps {w : World} {a : Addr} {v : Value} (h : w.cell? a = some v) (o : Obj) : (w.alloc o).cell? a = some v := by
  rw [gro_of_alloc]
  exact gro_keeps h _ _
theorem drew_keeps {w : World} {a : Addr} {v : Value} (h : w.cell? a = some v) : w.drew.cell? a = some v := h
/-- a fresh datum: owned, no block twice, all its blocks new since w -/
def Fresh {α : Type} (T : Ty α) (w w' : World) (cs : List Value) (x : α) : Prop := ∃ S, T.O w' cs x S ∧ S.Nodup ∧ ∀ b ∈ S, w.heap.size ≤ b
theorem Fresh.gro {α : Type} {T : Ty α} {w w1 w2 : World} {cs : List Value} {x : α} (h : Fresh T w w1 cs x) (hg : Gro w1 w2) : Fresh T w w2 cs x := by
  obtain ⟨S, h1, h2, h3⟩ := h
  exact ⟨S, T.groO h1 hg, h2, h3⟩
theorem Fresh.since {α : Type} {T : Ty α} {w0 w w1 : World} {cs : List Value} {x : α} (h : Fresh T w w1 cs x) (hg : w0.heap.size ≤ w.heap.size) : Fresh T w0 w1 cs x := by
  obtain ⟨S, h1, h2, h3⟩ := h
  exact ⟨S, h1, h2, fun b hb => Nat.le_trans hg (h3 b hb)⟩
theorem Fresh.read {α : Type} {T : Ty α} {w w1 : World} {cs : List Value} {x : α} (h : Fresh T w w1 cs x) : T.R w1 w1.heap.size cs x := by
  obtain ⟨S, h1, _, _⟩ := h
  exact T.read h1
/-- fresh since W0, and all its blocks below hi -/
def Fre {α : Type} (T : Ty α) (W0 : World) (hi : Nat) (W : World) (cs : List Value) (x : α) : Prop := ∃ S, T.O W cs x S ∧ S.Nodup ∧ ∀ b ∈ S, W0.heap.size ≤ b ∧ b < hi
theorem Fresh.fre {α : Type} {T : Ty α} {w w1 : World} {cs : List Value} {x : α} (h : Fresh T w w1 cs x) : Fre T w w1.heap.size w1 cs x := by
  obtain ⟨S, h1, h2, h3⟩ := h
  exact ⟨S, h1, h2, fun b hb => ⟨h3 b hb, T.ltO h1 b hb⟩⟩
theorem Fre.fresh {α : Type} {T : Ty α} {w w1 : World} {hi : Nat} {cs : List Value} {x : α} (h : Fre T w hi w1 cs x) : Fresh T w w1 cs x := by
  obtain ⟨S, h1, h2, h3⟩ := h
  exact ⟨S, h1, h2, fun b hb => (h3 b hb).1⟩
theorem Fre.same {α : Type} {T : Ty α} {w w1 w2 : World} {hi : Nat} {cs : List Value} {x : α} (h : Fre T w hi w1 cs x) (hs : Same w.heap.size hi w1 w2) : Fre T w hi w2 cs x := by
  obtain ⟨S, h1, h2, h3⟩ := h
  exact ⟨S, T.keepO h1 (fun k hk => hs k (h3 k hk).1 (h3 k hk).2), h2, h3⟩
theorem Fre.gro {α : Type} {T : Ty α} {w w1 w2 : World} {hi : Nat} {cs : List Value} {x : α} (h : Fre T w hi w1 cs x) (hg : Gro w1 w2) : Fre T w hi w2 cs x := by
  obtain ⟨S, h1, h2, h3⟩ := h
  exact ⟨S, T.groO h1 hg, h2, h3⟩
theorem Fre.up {α : Type} {T : Ty α} {w w1 : World} {hi hi' : Nat} {cs : List Value} {x : α} (h : Fre T w hi w1 cs x) (hh : hi ≤ hi') : Fre T w hi' w1 cs x := by
  obtain ⟨S, h1, h2, h3⟩ := h
  exact ⟨S, h1, h2, fun b hb => ⟨(h3 b hb).1, Nat.lt_of_lt_of_le (h3 b hb).2 hh⟩⟩
theorem Fre.read {α : Type} {T : Ty α} {w w1 : World} {hi : Nat} {cs : List Value} {x : α} (h : Fre T w hi w1 cs x) : T.R w1 w1.heap.size cs x := h.fresh.read
theorem Fre.since {α : Type} {T : Ty α} {w0 w w1 : World} {hi : Nat} {cs : List Value} {x : α} (h : Fre T w hi w1 cs x) (hg : w0.heap.size ≤ w.heap.size) : Fre T w0 hi w1 cs x := by
  obtain ⟨S, h1, h2, h3⟩ := h
  exact ⟨S, h1, h2, fun b hb => ⟨Nat.le_trans hg (h3 b hb).1, (h3 b hb).2⟩⟩
/-- .. its blocks lie from W0 to hi, or from n on -/
def Fr2 {α : Type} (T : Ty α) (W0 : World) (hi n : Nat) (W : World) (cs : List Value) (x : α) : Prop := ∃ S, T.O W cs x S ∧ S.Nodup ∧ ∀ b ∈ S, (W0.heap.size ≤ b ∧ b < hi) ∨ n ≤ b
theorem Fr2.fresh {α : Type} {T : Ty α} {w w1 : World} {hi n : Nat} {cs : List Value} {x : α} (h : Fr2 T w hi n w1 cs x) (hn : w.heap.size ≤ n) : Fresh T w w1 cs x := by
  obtain ⟨S, h1, h2, h3⟩ := h
  exact ⟨S, h1, h2, fun b hb => by have := h3 b hb; omega⟩
theorem Fr2.same {α : Type} {T : Ty α} {w w1 w2 : World} {hi n : Nat} {cs : List Value} {x : α} (h : Fr2 T w hi n w1 cs x) (hs : Same w.heap.size hi w1 w2) (ht : Same n w1.heap.size w1 w2) : Fr2 T w hi n w2 cs x := by
  obtain ⟨S, h1, h2, h3⟩ := h
  refine ⟨S, T.keepO h1 (fun k hk => ?_), h2, h3⟩
  rcases h3 k hk with h | h
  · exact hs k h.1 h.2
  · exact ht k h (T.ltO h1 k hk)
theorem Fr2.fre {α : Type} {T : Ty α} {w w1 : World} {hi n : Nat} {cs : List Value} {x : α} (h : Fr2 T w hi n w1 cs x) (hn : w.heap.size ≤ n) : Fre T w w1.heap.size w1 cs x := (h.fresh hn).fre
/-- what a function hands back that makes a new list -/
def RetSl {α : Type} (T : Ty α) (e : TypeId) (xs : List α) (w : World) (r : Ending) (w' : World) : Prop := ∃ A c, r = .returned (.slice A xs.length c) ∧ Fresh (T.sl e) w w' [.slice A xs.length c] xs ∧ Gro w w'
theorem own_made {α : Type} {T : Ty α} {e : TypeId} {w : World} {g : Nat} {cur : Array Value} {xs : List α} {S : List Nat} (hg : w.heap[g]? = some (.cells cur e (0, 0))) (hr : Rows T w cur.toList xs S) (hm : xs.length ≤ 9223372036854775807) :
    (T.sl e).O w [.slice (some ⟨g, 0, none⟩) xs.length xs.length] xs (g :: S) := by
  have hl := hr.len
  rw [Array.length_toList] at hl
  refine ⟨_, _, cur.toList, S, rfl, ⟨by rw [Array.length_toList]; exact hl, .inr ⟨g, xs.length, cur, rfl, Nat.zero_le _, hg, Nat.le_refl _, by simpa [maxLen] using hm, hl, ?_⟩⟩, hr, rfl⟩
  rw [List.take_of_length_le]
  rw [Array.length_toList]
  omega
theorem run_make_rowN {P : Program} (t e : TypeId) (i : TypeInfo) (z : Value) (ht : P.underlying t = some (.slice e)) (hi : P.info? e = some i) (hz : i.zero = some z)
    (kl kc : IntKind) (n c : Nat) (hnc : n ≤ c) (hbytes : i.bytes * c ≤ 281474976710656) (h63 : c ≤ 9223372036854775807) (w : World) :
    (Instr.makeSlice t (.int kl (n : Int)) (.int kc (c : Int))).run P w = .ok (.slice (some ⟨w.heap.size, 0, none⟩) n c) (w.alloc (.cells (madeCells z.cells (c * i.size)) e)) := by
  have hb : (i.bytes : Int) * (c : Int) ≤ 281474976710656 := by
    have h : ((i.bytes * c : Nat) : Int) ≤ 281474976710656 := by omega
    rwa [Int.natCast_mul] at h
  have hr := run_make (P := P) w t e i z ht hi hz kl kc n c (by omega) (by omega) hb (by omega)
  simp only [Int.toNat_natCast] at hr
  exact hr
theorem madeCells_size (z : Array Value) (n : Nat) : (madeCells z n).size = n := by simp [madeCells]
theorem toList_inj' {x y : ByteArray} : x.toList = y.toList ↔ x = y := by
  rw [ByteArray.toList_eq, ByteArray.toList_eq]
  constructor
  · intro h
    cases x
    cases y
    simpa using h
  · rintro rfl
    rfl
theorem str_ne {x y : ByteArray} (h : ¬ x = y) : (!(x.toList == y.toList)) = true := by
  simp only [Bool.not_eq_true', beq_eq_false_iff_ne, ne_eq, toList_inj']
  exact h
theorem str_eqb (x y : ByteArray) : (x.toList == y.toList) = decide (x = y) := by
  rw [Bool.eq_iff_iff]
  simp only [beq_iff_eq, toList_inj', decide_eq_true_eq]
/-- 'xs[k:]' -/
theorem sl_drop {α : Type} {T : Ty α} {e : TypeId} {w : World} {B : Nat} {A : Option Addr} {n c k : Nat} {xs : List α} (h : (T.sl e).R w B [.slice A n c] xs) (hk : k ≤ n) :
    (T.sl e).R w B [.slice (if c = k then A else A.map (·.add (k * T.size))) (n - k) (c - k)] (xs.drop k) := by
  obtain ⟨A', c', h1, h2, h3, h4, h5⟩ := h
  injection h1 with h1 _
  injection h1 with hA hn hc
  subst hA hn hc
  refine ⟨_, c - k, by rw [List.length_drop], by rw [List.length_drop]; omega, by omega, fun hN => ?_, fun hp => ?_⟩
  · split at hN
    · omega
    · cases A with
      | none => have := h4 rfl; omega
      | some a => simp at hN
  · rw [List.length_drop] at hp
    obtain ⟨g, off, rfl, hg, h6⟩ := h5 (by omega)
    refine ⟨g, off + k * T.size, ?_, hg, fun i x hx => ?_⟩
    · rw [if_neg (by omega)]
      simp [Addr.add_lit]
    · rw [List.getElem?_drop] at hx
      obtain ⟨ec, h7, h8⟩ := h6 _ x hx
      refine ⟨ec, h7, fun j u hu => ?_⟩
      have := h8 j u hu
      rw [show off + k * T.size + i * T.size + j = off + (k + i) * T.size + j from by rw [Nat.add_mul]; omega]
      exact this
/-- 'xs[:k]' -/
theorem sl_take {α : Type} {T : Ty α} {e : TypeId} {w : World} {B : Nat} {A : Option Addr} {n c k : Nat} {xs : List α} (h : (T.sl e).R w B [.slice A n c] xs) (hk : k ≤ n) :
    (T.sl e).R w B [.slice A k c] (xs.take k) := by
  obtain ⟨A', c', h1, h2, h3, h4, h5⟩ := h
  injection h1 with h1 _
  injection h1 with hA hn hc
  subst hA hn hc
  have hl : (xs.take k).length = k := by rw [List.length_take]; omega
  refine ⟨A, c, by rw [hl], by rw [hl]; omega, h3, h4, fun hp => ?_⟩
  rw [hl] at hp
  obtain ⟨g, off, rfl, hg, h6⟩ := h5 (by omega)
  refine ⟨g, off, rfl, hg, fun i x hx => ?_⟩
  rw [List.getElem?_take] at hx
  split at hx
  · exact h6 i x hx
  · cases hx
theorem keepOnly {α : Type} (T : Ty α) {w0 a b : World} {cs : List Value} {x : α} {S S' : List Nat} (h : T.O w0 cs x S) (hs : OnlyS S' a b) (hg : Gro w0 a) (hd : ∀ k ∈ S, k ∉ S') : T.O b cs x S :=
  T.keepO (T.groO h hg) fun k hk => hs.block k (T.ltO (T.groO h hg) k hk) (hd k hk)
theorem above {S S' : List Nat} {X Y : Nat} (_ : ∀ b ∈ S, X ≤ b) (h : ∀ b ∈ S', Y ≤ b) (hxy : X ≤ Y) : ∀ b ∈ S', X ≤ b := fun b hb => Nat.le_trans hxy (h b hb)
theorem nd2 {A B : List Nat} (h : (A ++ B).Nodup) : A.Nodup ∧ B.Nodup ∧ (∀ k ∈ A, k ∉ B) ∧ (∀ k ∈ B, k ∉ A) := by
  rw [List.nodup_append] at h
  exact ⟨h.1, h.2.1, fun k ha hb => h.2.2 k ha k hb rfl, fun k hb ha => h.2.2 k ha k hb rfl⟩
theorem nd3 {A B C : List Nat} (h : (A ++ B ++ C).Nodup) : A.Nodup ∧ B.Nodup ∧ C.Nodup ∧ (∀ k ∈ A, k ∉ B) ∧ (∀ k ∈ A, k ∉ C) ∧ (∀ k ∈ B, k ∉ A) ∧ (∀ k ∈ B, k ∉ C) ∧ (∀ k ∈ C, k ∉ A) ∧ (∀ k ∈ C, k ∉ B) := by
  obtain ⟨h1, h2, h3, h4⟩ := nd2 h
  obtain ⟨a1, a2, a3, a4⟩ := nd2 h1
  exact ⟨a1, a2, h2, a3, fun k ha => h3 k (List.mem_append_left _ ha), a4, fun k hb => h3 k (List.mem_append_right _ hb), fun k hc ha => h4 k hc (List.mem_append_left _ ha), fun k hc hb => h4 k hc (List.mem_append_right _ hb)⟩
theorem nd4 {A B C D : List Nat} (h : (A ++ B ++ C ++ D).Nodup) : A.Nodup ∧ B.Nodup ∧ C.Nodup ∧ D.Nodup ∧ (∀ k ∈ A, k ∉ B) ∧ (∀ k ∈ A, k ∉ C) ∧ (∀ k ∈ A, k ∉ D) ∧ (∀ k ∈ B, k ∉ A) ∧ (∀ k ∈ B, k ∉ C) ∧ (∀ k ∈ B, k ∉ D) ∧ (∀ k ∈ C, k ∉ A) ∧ (∀ k ∈ C, k ∉ B) ∧ (∀ k ∈ C, k ∉ D) ∧ (∀ k ∈ D, k ∉ A) ∧ (∀ k ∈ D, k ∉ B) ∧ (∀ k ∈ D, k ∉ C) := by
  obtain ⟨h1, h2, h3, h4⟩ := nd2 h
  obtain ⟨a1, a2, a3, b1, b2, b3, b4, b5, b6⟩ := nd3 h1
  refine ⟨a1, a2, a3, h2, b1, b2, fun k hk => h3 k (by simp [hk]), b3, b4, fun k hk => h3 k (by simp [hk]), b5, b6, fun k hk => h3 k (by simp [hk]), fun k hk ha => h4 k hk (by simp [ha]), fun k hk ha => h4 k hk (by simp [ha]), fun k hk ha => h4 k hk (by simp [ha])⟩
end Go.Proofs.Ytbhobjepjaeffaa
