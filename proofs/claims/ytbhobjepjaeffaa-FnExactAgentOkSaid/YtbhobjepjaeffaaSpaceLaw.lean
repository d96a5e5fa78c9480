/-
  SPACELAW: images and spaces in plain words: an address is the start of a symbol in both ways of saying it.
-/
import Derived.Test.YtbhobjepjaeffaaOpLaw
import Derived.Test.YtbhobjepjaeffaaTyProc
set_option linter.unusedVariables false
set_option linter.unusedSimpArgs false
namespace Go.Proofs.Ytbhobjepjaeffaa
open Go.RowKit
def imgF (code : ByteArray) : List DSymbol → List ByteArray → Nat → Bool
  | [], _, a => decide (a = code.size)
  | x :: r, prev, a => decide (x.Start = (a : Int)) && decide (1 ≤ x.Size) && decide (x.Size ≤ (code.size : Int) - a) && nameOk x.Name && !prev.any (fun y => decide (y = x.Name)) && disOk (code.extract a (a + x.Size.toNat)) 0 && imgF code r (prev ++ [x.Name]) (a + x.Size.toNat)
def imageOk (i : DImage) : Bool := decide (i.Code.size ≤ 1000000) && imgF i.Code i.Symbols [] 0
def symHit (x : DSymbol) (off : Int) : Bool := btw x.Start 0 1000000 && btw x.Size 0 1000000 && decide (x.Start ≤ off) && decide (off < x.Start + x.Size)
def symGo : List DSymbol → Int → Nat → Int
  | [], _, _ => -1
  | x :: r, off, k => if symHit x off = true then (k : Int) else symGo r off (k + 1)
theorem imgF_cons {code : ByteArray} {x : DSymbol} {r : List DSymbol} {prev : List ByteArray} {a : Nat} (h : imgF code (x :: r) prev a = true) :
    x.Start = (a : Int) ∧ 1 ≤ x.Size ∧ x.Size ≤ (code.size : Int) - a ∧ imgF code r (prev ++ [x.Name]) (a + x.Size.toNat) = true := by
  simp only [imgF, Bool.and_eq_true, decide_eq_true_eq] at h
  exact ⟨h.1.1.1.1.1.1, h.1.1.1.1.1.2, h.1.1.1.1.2, h.2⟩
/-- the symbols of a right image lie one behind the other: the start of one is found -/
theorem sym_find {code : ByteArray} (hc : code.size ≤ 1000000) : ∀ (l : List DSymbol) (prev : List ByteArray) (a k0 : Nat), imgF code l prev a = true → ∀ x ∈ l, (∃ k y, symGo l x.Start k0 = ((k0 + k : Nat) : Int) ∧ l[k]? = some y ∧ y.Start = x.Start) ∧ (a : Int) ≤ x.Start ∧ x.Start + 1 ≤ code.size := by
  intro l
  induction l with
  | nil => intro prev a k0 _ x hx; cases hx
  | cons y r ih =>
    intro prev a k0 h x hx
    obtain ⟨h1, h2, h3, h4⟩ := imgF_cons h
    rcases List.mem_cons.1 hx with rfl | hx
    · refine ⟨⟨0, x, ?_, rfl, rfl⟩, by omega, by omega⟩
      have : symHit x x.Start = true := by
        unfold symHit
        rw [btw_mk (by omega) (by omega), btw_mk (by omega) (by omega)]
        simp; omega
      simp [symGo, this]
    · obtain ⟨⟨k, z, e1, e2, e3⟩, e4, e5⟩ := ih _ _ (k0 + 1) h4 x hx
      refine ⟨⟨k + 1, z, ?_, e2, e3⟩, by omega, e5⟩
      have : symHit y x.Start = false := by
        unfold symHit
        simp; omega
      simp only [symGo, this]
      rw [if_neg (by simp), e1]
      congr 1
      omega
theorem symGo_some : ∀ (l : List DSymbol) (off : Int) (k0 : Nat), symGo l off k0 = -1 ∨ ∃ k x, symGo l off k0 = ((k0 + k : Nat) : Int) ∧ l[k]? = some x ∧ x ∈ l := by
  intro l
  induction l with
  | nil => intro off k0; exact .inl rfl
  | cons x r ih =>
    intro off k0
    simp only [symGo]
    split
    · exact .inr ⟨0, x, by simp, rfl, by simp⟩
    · rcases ih off (k0 + 1) with h | ⟨k, y, h1, h2, h3⟩
      · exact .inl h
      · exact .inr ⟨k + 1, y, by rw [h1]; congr 1; omega, h2, by simp [h3]⟩
/-- where an address lies -/
def locGo : List DImage → List Int → Int → Nat → Int × Int
  | i :: is, b :: bs, a, k => if b ≤ a ∧ a < b + i.Code.size then ((k : Int), a - b) else locGo is bs a (k + 1)
  | _, _, _, _ => (-1, -1)
def loc (s : DSpace) (a : Int) : Int × Int := locGo s.Images s.Bases a 0
/-- the address of a symbol's start, said by search -/
def isEnt (s : DSpace) (e : Int) : Bool := (s.Images.zip s.Bases).any fun p => p.1.Symbols.any fun x => decide (p.2 + x.Start = e)
/-- .. said by place -/
def entS (s : DSpace) (e : Int) : Bool :=
  match s.Images[(loc s e).1.toNat]? with
  | none => false
  | some i => decide (0 ≤ (loc s e).1) && (match i.Symbols[(symGo i.Symbols (loc s e).2 0).toNat]? with
    | none => false
    | some x => decide (0 ≤ symGo i.Symbols (loc s e).2 0) && decide (x.Start = (loc s e).2))
def overlap (s : DSpace) : Bool :=
  match s.Images, s.Bases with
  | [i, j], [a, b] => decide (0 < i.Code.size) && decide (0 < j.Code.size) && decide (a < b + j.Code.size) && decide (b < a + i.Code.size)
  | _, _ => true
def spaceOk (s : DSpace) : Bool :=
  decide (s.Images.length = 2) && decide (s.Bases.length = 2) && btw s.Entries.length 1 6 && s.Images.all imageOk && s.Bases.all (fun b => btw b 1 1000000) && !overlap s && s.Entries.all (isEnt s)
theorem ent_eq {i j : DImage} {a b : Int} {es : List Int} (hi : imageOk i = true) (hj : imageOk j = true) (ha : 1 ≤ a) (hb : 1 ≤ b) (ho : ¬ (0 < i.Code.size ∧ 0 < j.Code.size ∧ a < b + j.Code.size ∧ b < a + i.Code.size)) (e : Int) :
    entS ⟨[i, j], [a, b], es⟩ e = isEnt ⟨[i, j], [a, b], es⟩ e := by
  simp only [imageOk, Bool.and_eq_true, decide_eq_true_eq] at hi hj
  obtain ⟨ci, fi⟩ := hi
  obtain ⟨cj, fj⟩ := hj
  have key : entS ⟨[i, j], [a, b], es⟩ e = true ↔ isEnt ⟨[i, j], [a, b], es⟩ e = true := by
    simp only [isEnt, List.zip_cons_cons, List.zip_nil_right, List.any_cons, List.any_nil, Bool.or_false, Bool.or_eq_true, List.any_eq_true, decide_eq_true_eq]
    constructor
    · intro h
      have hl : (loc ⟨[i, j], [a, b], es⟩ e = (0, e - a)) ∨ (loc ⟨[i, j], [a, b], es⟩ e = (1, e - b)) ∨ loc ⟨[i, j], [a, b], es⟩ e = (-1, -1) := by
        simp only [loc, locGo]
        split
        · simp
        · split
          · simp
          · simp
      have hz : ∀ (l : List DSymbol) (o : Int), (match l[(symGo l o 0).toNat]? with
          | none => false
          | some x => decide (0 ≤ symGo l o 0) && decide (x.Start = o)) = true → ∃ x ∈ l, x.Start = o := by
        intro l o h
        split at h
        · cases h
        · rename_i x hx
          simp only [Bool.and_eq_true, decide_eq_true_eq] at h
          exact ⟨x, List.mem_of_getElem? hx, h.2⟩
      unfold entS at h
      rcases hl with hl | hl | hl
      · rw [hl] at h
        simp at h
        obtain ⟨x, hx, hs⟩ := hz i.Symbols (e - a) (by simpa using h)
        exact .inl ⟨x, hx, by omega⟩
      · rw [hl] at h
        simp at h
        obtain ⟨x, hx, hs⟩ := hz j.Symbols (e - b) (by simpa using h)
        exact .inr ⟨x, hx, by omega⟩
      · rw [hl] at h
        simp at h
    · intro h
      rcases h with ⟨x, hx, he⟩ | ⟨x, hx, he⟩
      · obtain ⟨⟨k, y, e1, e2, e3⟩, e4, e5⟩ := sym_find ci i.Symbols [] 0 0 fi x hx
        have hl : loc ⟨[i, j], [a, b], es⟩ e = (0, x.Start) := by
          simp only [loc, locGo]
          rw [if_pos (by omega)]
          simp; omega
        unfold entS
        rw [hl]
        simp [e1, e2, e3]
      · obtain ⟨⟨k, y, e1, e2, e3⟩, e4, e5⟩ := sym_find cj j.Symbols [] 0 0 fj x hx
        have hl : loc ⟨[i, j], [a, b], es⟩ e = (1, x.Start) := by
          simp only [loc, locGo]
          rw [if_neg (by omega), if_pos (by omega)]
          simp; omega
        unfold entS
        rw [hl]
        simp [e1, e2, e3]
  cases h1 : entS ⟨[i, j], [a, b], es⟩ e <;> cases h2 : isEnt ⟨[i, j], [a, b], es⟩ e <;> simp_all
end Go.Proofs.Ytbhobjepjaeffaa
