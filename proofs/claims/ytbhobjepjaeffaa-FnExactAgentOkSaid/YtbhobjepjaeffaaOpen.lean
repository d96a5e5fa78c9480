/-
  OPEN: how an argument, read as data by the statement's own reader, reads in the words of 'Ty'. Over any program.
-/
import Derived.Test.YtbhobjepjaeffaaBase
set_option linter.unusedVariables false
set_option linter.unusedSimpArgs false
namespace Go.Proofs.Ytbhobjepjaeffaa
open Go.RowKit Go.WideShapes Go.ChangeShapes
/-- type number t reads as T -/
def Opens (P : Program) (t : TypeId) {α : Type} (T : Ty α) : Prop :=
  ∀ (H : Type) (enc : TypeId × Value → H) (W : World) (spare : Nat → Bool) (held : Bool) (fuel : Nat) (cs : List Value) (x : DataW H × List MemPlace),
    DataW.trod enc P W 0 spare held fuel t cs = some x → ∃ a, T.R W W.heap.size cs a
theorem wf_bounds {x : Int} (h : (Lit.int .i64 x).wf = true) : -9223372036854775808 ≤ x ∧ x ≤ 9223372036854775807 := by
  simp [Lit.wf, IntKind.min, IntKind.max, IntKind.signed, IntKind.bits] at h
  exact h
section
variable {P : Program} {t : TypeId}
theorem opens_int (ht : P.underlying t = some (.int .i64)) : Opens P t intT := by
  intro H enc W spare held fuel cs x h
  obtain ⟨n, rfl, _, hw⟩ := DataW.trod_int ht h
  exact ⟨n, rfl, (wf_bounds hw).1, (wf_bounds hw).2⟩
theorem opens_bool (ht : P.underlying t = some .bool) : Opens P t boolT := by
  intro H enc W spare held fuel cs x h
  obtain ⟨b, rfl, _⟩ := DataW.trod_bool ht h
  exact ⟨b, rfl⟩
theorem opens_str (ht : P.underlying t = some .string) : Opens P t strT := by
  intro H enc W spare held fuel cs x h
  obtain ⟨s, rfl, _, hs⟩ := DataW.trod_string ht h
  exact ⟨s, rfl, by simpa [maxLen] using hs⟩
theorem opens_via {α β : Type} {T : Ty α} (f : β → α) (g : α → β) (h : ∀ a, f (g a) = a) (ho : Opens P t T) : Opens P t (T.via f) := by
  intro H enc W spare held fuel cs x hx
  obtain ⟨a, ha⟩ := ho _ _ _ _ _ _ _ _ hx
  exact ⟨g a, by show T.R _ _ _ (f (g a)); rw [h]; exact ha⟩
theorem opens_sl {α : Type} {T : Ty α} {e e' : TypeId} (ht : P.underlying t = some (.slice e)) (hs : P.cellsOf e = T.size) (h0 : 0 < T.size) (he : Opens P e T) : Opens P t (T.sl e') := by
  intro H enc W spare held fuel cs x h
  rcases Go.Deep.open_slice ht h with ⟨rfl, _⟩ | ⟨a, len, cap, m, n, D, Pl, rfl, _, hl, hc, hm, _, hi⟩
  · exact ⟨[], none, 0, rfl, Nat.le_refl _, Nat.zero_le _, fun _ => rfl, fun hp => by simp at hp⟩
  · have hlm : len ≤ m := by rw [hm]; split <;> omega
    have hel : ∀ n', n' ≤ len → ∃ xs : List α, xs.length = n' ∧ ∀ i y, xs[i]? = some y → ∃ ec, T.R W W.heap.size ec y ∧ ∀ (j : Nat) (u : Value), ec[j]? = some u → W.cell? ((a.add (i * T.size)).add j) = some u := by
      intro n'
      induction n' with
      | zero => exact fun _ => ⟨[], rfl, fun i y hy => by simp at hy⟩
      | succ n' ih =>
        intro hn
        obtain ⟨xs, hx1, hx2⟩ := ih (by omega)
        obtain ⟨ec, hcl, htr⟩ := hi n' (by omega)
        obtain ⟨y, hy⟩ := he _ _ _ _ _ _ _ _ htr
        refine ⟨xs ++ [y], by simp [hx1], fun i z hz => ?_⟩
        rw [List.getElem?_append] at hz
        split at hz
        · exact hx2 i z hz
        · rename_i hnl
          have hil := (List.getElem?_eq_some_iff.1 hz).1
          simp at hil
          have hie : i = n' := by omega
          subst hie
          rw [hx1, Nat.sub_self] at hz
          simp at hz
          subst hz
          refine ⟨ec, hy, fun j u hu => ?_⟩
          obtain ⟨_, hlen, hat⟩ := World.cells?_some hcl
          rw [hs] at hat hlen
          rw [hat j (by have := (List.getElem?_eq_some_iff.1 hu).1; omega), hu]
    obtain ⟨xs, hx1, hx2⟩ := hel len (Nat.le_refl _)
    subst hx1
    refine ⟨xs, some a, cap, rfl, hl, by simpa [maxLen] using hc, fun h => by simp at h, fun hp => ?_⟩
    obtain ⟨ec, hR, hcell⟩ := hx2 0 xs[0] (List.getElem?_eq_getElem hp)
    have hel0 : 0 < ec.length := by rw [T.lenR hR]; exact h0
    have h00 := hcell 0 ec[0] (List.getElem?_eq_getElem hel0)
    obtain ⟨g, off, spot⟩ := a
    have h01 : W.cell? ⟨g, off, spot⟩ = some ec[0] := by simpa [Addr.add] using h00
    have hspot : spot = none := World.cell?_spot h01
    subst hspot
    have hlt := World.block_lt_of_cell? W _ h01
    refine ⟨g, off, rfl, hlt, fun i y hy => ?_⟩
    obtain ⟨ec', hR', hcell'⟩ := hx2 i y hy
    refine ⟨ec', hR', fun j u hu => ?_⟩
    have := hcell' j u hu
    rw [Addr.add_lit, Addr.add_lit] at this
    exact this
/-- fields from offset o on -/
def OpF (P : Program) (fs : List Field) (o : Nat) {α : Type} (T : Ty α) : Prop :=
  ∀ (H : Type) (enc : TypeId × Value → H) (W : World) (spare : Nat → Bool) (held : Bool) (fuel : Nat) (cs : List Value), cs.length = o + T.size →
    (∀ f ∈ fs, ∃ y, DataW.trod enc P W 0 spare held fuel f.type ((cs.drop f.offset).take (P.cellsOf f.type)) = some y) → ∃ a, T.R W W.heap.size (cs.drop o) a
theorem opF_one {f : Field} {o : Nat} {α : Type} {T : Ty α} (ho : f.offset = o) (hs : P.cellsOf f.type = T.size) (h : Opens P f.type T) : OpF P [f] o T := by
  intro H enc W spare held fuel cs hl hf
  obtain ⟨y, hy⟩ := hf f (by simp)
  rw [ho, hs, List.take_of_length_le (by simp; omega)] at hy
  exact h _ _ _ _ _ _ _ _ hy
theorem opF_cons {f : Field} {fs : List Field} {o : Nat} {α β : Type} {T : Ty α} {U : Ty β} (ho : f.offset = o) (hs : P.cellsOf f.type = T.size) (h : Opens P f.type T) (hr : OpF P fs (o + T.size) U) : OpF P (f :: fs) o (T.prod U) := by
  intro H enc W spare held fuel cs hl hf
  obtain ⟨y, hy⟩ := hf f (by simp)
  rw [ho, hs] at hy
  obtain ⟨a, ha⟩ := h _ _ _ _ _ _ _ _ hy
  obtain ⟨b, hb⟩ := hr _ enc W spare held fuel cs (by rw [hl]; simp [Ty.prod]; omega) (fun g hg => hf g (by simp [hg]))
  refine ⟨(a, b), (cs.drop o).take T.size, cs.drop (o + T.size), ?_, ha, hb⟩
  rw [← List.drop_drop]
  exact (List.take_append_drop _ _).symm
theorem opens_struct {α : Type} {T : Ty α} {fs : List Field} (ht : P.underlying t = some (.struct fs.toArray)) (hs : P.cellsOf t = T.size) (h : OpF P fs 0 T) : Opens P t T := by
  intro H enc W spare held fuel cs x hx
  obtain ⟨xs, n, _, _, hlen, hxl, hf⟩ := DataW.trod_struct ht hx
  obtain ⟨a, ha⟩ := h _ enc W spare held n cs (by rw [hlen, hs]; omega) (fun f hm => by
    obtain ⟨i, hi, he⟩ := List.getElem_of_mem hm
    have h1 := hf i f (by simp [List.getElem?_eq_getElem hi, he])
    have hi' : i < xs.length := by rw [hxl]; simpa using hi
    exact ⟨_, h1.trans (List.getElem?_eq_getElem hi')⟩)
  exact ⟨a, by simpa using ha⟩
/-- an argument of the law -/
theorem arg_open {H : Type} {enc : TypeId × Value → H} {W : World} {spare : Nat → Bool} {held : Bool} {v : Value} {d : DataW H} {p : List MemPlace} {α : Type} {T : Ty α} (ho : Opens P t T) (h : DataW.Trod enc P W 0 spare held t v d p) : ∃ a, T.R W W.heap.size v.cells.toList a := by
  obtain ⟨fuel, hf⟩ := h
  exact ho _ _ _ _ _ _ _ _ hf
theorem arg_agg {r : Reach} {b0 : Nat} {W : World} {fs : Array Field} {v : Value} (ht : P.underlying t = some (.struct fs)) (hv : Value.okWide P W r b0 t v) : ∃ cs, v = .agg cs := by
  obtain ⟨cs, h, _⟩ := okWide_struct ht hv
  exact ⟨cs, h⟩
theorem arg_slice {r : Reach} {b0 : Nat} {W : World} {e : TypeId} {v : Value} (ht : P.underlying t = some (.slice e)) (hv : Value.okWide P W r b0 t v) : v.cells.toList = [v] := by
  obtain ⟨a, l, c, rfl⟩ := okWide_slice ht hv
  rfl
end
end Go.Proofs.Ytbhobjepjaeffaa
