/-
  BOX2: 'append' onto a list that lies before other blocks of the call's own (and onto an empty new list), in the walk and in a region that draws; a list's cell stored anew; the world written out again behind it. Over any program.
-/
import Derived.Test.YtbhobjepjaeffaaAppend2
import Derived.Test.YtbhobjepjaeffaaRowsPut
set_option linter.unusedVariables false
set_option linter.unusedSimpArgs false
namespace Go.Proofs.Ytbhobjepjaeffaa
open Go.RowKit
/-- owned, no block twice, its blocks from lo to hi -/
def FrN {α : Type} (T : Ty α) (lo hi : Nat) (W : World) (cs : List Value) (x : α) : Prop := ∃ S, T.O W cs x S ∧ S.Nodup ∧ ∀ b ∈ S, lo ≤ b ∧ b < hi
/-- .. from lo to hi, or from n on -/
def Fr2N {α : Type} (T : Ty α) (lo hi n : Nat) (W : World) (cs : List Value) (x : α) : Prop := ∃ S, T.O W cs x S ∧ S.Nodup ∧ ∀ b ∈ S, (lo ≤ b ∧ b < hi) ∨ n ≤ b
section
variable {α : Type} {T : Ty α} {w w1 w2 : World} {lo hi n : Nat} {cs : List Value} {x : α}
theorem Fresh.frN (h : Fresh T w w1 cs x) : FrN T w.heap.size w1.heap.size w1 cs x := h.fre
theorem FrN.same (h : FrN T lo hi w1 cs x) (hs : Same lo hi w1 w2) : FrN T lo hi w2 cs x := by
  obtain ⟨S, h1, h2, h3⟩ := h
  exact ⟨S, T.keepO h1 (fun k hk => hs k (h3 k hk).1 (h3 k hk).2), h2, h3⟩
theorem FrN.gro (h : FrN T lo hi w1 cs x) (hg : Gro w1 w2) : FrN T lo hi w2 cs x := by
  obtain ⟨S, h1, h2, h3⟩ := h
  exact ⟨S, T.groO h1 hg, h2, h3⟩
theorem FrN.wide {lo' hi' : Nat} (h : FrN T lo hi w1 cs x) (h1 : lo' ≤ lo) (h2 : hi ≤ hi') : FrN T lo' hi' w1 cs x := by
  obtain ⟨S, h3, h4, h5⟩ := h
  exact ⟨S, h3, h4, fun b hb => by have := h5 b hb; omega⟩
theorem FrN.read (h : FrN T lo hi w1 cs x) : T.R w1 w1.heap.size cs x := by
  obtain ⟨S, h1, _, _⟩ := h
  exact T.read h1
theorem FrN.two (h : FrN T lo hi w1 cs x) : Fr2N T lo hi n w1 cs x := by
  obtain ⟨S, h1, h2, h3⟩ := h
  exact ⟨S, h1, h2, fun b hb => .inl (h3 b hb)⟩
theorem Fr2N.same (h : Fr2N T lo hi n w1 cs x) (hs : Same lo hi w1 w2) (ht : Same n w1.heap.size w1 w2) : Fr2N T lo hi n w2 cs x := by
  obtain ⟨S, h1, h2, h3⟩ := h
  refine ⟨S, T.keepO h1 (fun k hk => ?_), h2, h3⟩
  rcases h3 k hk with h | h
  · exact hs k h.1 h.2
  · exact ht k h (T.ltO h1 k hk)
theorem Fr2N.gro (h : Fr2N T lo hi n w1 cs x) (hg : Gro w1 w2) : Fr2N T lo hi n w2 cs x := by
  obtain ⟨S, h1, h2, h3⟩ := h
  exact ⟨S, T.groO h1 hg, h2, h3⟩
theorem Fr2N.read (h : Fr2N T lo hi n w1 cs x) : T.R w1 w1.heap.size cs x := by
  obtain ⟨S, h1, _, _⟩ := h
  exact T.read h1
theorem Fr2N.fresh (h : Fr2N T lo hi n w1 cs x) (h1 : w.heap.size ≤ lo) (h2 : w.heap.size ≤ n) : Fresh T w w1 cs x := by
  obtain ⟨S, h3, h4, h5⟩ := h
  exact ⟨S, h3, h4, fun b hb => by have := h5 b hb; omega⟩
theorem FrN.fresh (h : FrN T lo hi w1 cs x) (h1 : w.heap.size ≤ lo) : Fresh T w w1 cs x := by
  obtain ⟨S, h3, h4, h5⟩ := h
  exact ⟨S, h3, h4, fun b hb => by have := h5 b hb; omega⟩
end
section
variable {α : Type} {T : Ty α} {e : TypeId} {P : Program} {t : TypeId} {bytes : Nat} {ops : Array Oper} {o : Oper} {a : Act} {Q : Exit → Act → World → Prop} {K : Act → World → Prop}
/-- 'append([]T{}, read...)', the new empty list lies right behind X, other blocks behind it -/
theorem run_append_over (hE : Elem P t e T bytes) (hf : Flat T) {ty : TypeId} {X W : World} {objs : Array Obj} {d1 : Nat} {g : Nat} (hg : Gro (gro (X.alloc (.cells #[] e)) objs d1) W) (hgX : g = X.heap.size)
    {B : Nat} {e' : TypeId} {A2 : Option Addr} {m c2 : Nat} {ys : List α} (hy : (T.sl e').R W B [.slice A2 m c2] ys) (hb : m * bytes ≤ 140737488355328) (h63 : m ≤ 9223372036854775807) :
    ∃ A' c'' os' os2 d2, (Builtin.append_ #[t, t] ty #[.slice (some ⟨g, 0, none⟩) 0 0, .slice A2 m c2]).run P W = .ok (.slice A' m c'') (gro (gro (gro X os' X.drawn) objs d1) os2 d2) ∧ os'.size = 1 ∧ Fr2N (T.sl e) X.heap.size (X.heap.size + 1) (X.heap.size + 1 + objs.size) (gro (gro (gro X os' X.drawn) objs d1) os2 d2) [.slice A' m c''] ys := by
  subst hgX
  have hs0 := hg.size
  rw [gro_size, World.size_alloc] at hs0
  have hfe : Fre (T.sl e) X (X.heap.size + 1) W [.slice (some ⟨X.heap.size, 0, none⟩) 0 0] [] := by
    obtain ⟨S, h1, h2, h3⟩ := fresh_empty2 (T := T) (e := e) (W0 := X) (X := X) (W := X.alloc (.cells #[] e)) (Gro.refl _) (Gro.refl _) rfl
    obtain ⟨h4, h5⟩ := flat_own hf h1
    have h6 : Gro (X.alloc (.cells #[] e)) W := ((Gro.refl _).more objs d1).trans hg
    exact ⟨[X.heap.size], (T.sl e).groO h4 h6, by simp, fun b hb => by simp at hb; omega⟩
  obtain ⟨A', c'', W', hrun, ⟨row, hgr, hrow⟩, hF⟩ := run_append_flat (P := P) (ty := ty) hE hf (m0 := X.heap.size + 1 + objs.size) hs0 hfe hy (L := m) (by omega) hb h63
  have hg2 : Gro (gro (gro X #[.cells #[] e] X.drawn) objs d1) W := by rw [← gro_of_alloc]; exact hg
  obtain ⟨os', os2, d2, hos, rfl⟩ := relit hg2 hgr (fun k hk => by have := hrow k hk; simp; omega)
  refine ⟨A', c'', os', os2, d2, hrun, by simpa using hos, ?_⟩
  obtain ⟨S, h1, h2, h3⟩ := hF
  exact ⟨S, by simpa using h1, h2, h3⟩
theorem step_append_over {E : Prop} (hgd : o.guard = none) (s x : Operand) (hE : Elem P t e T bytes) (hf : Flat T) {X W : World} {objs : Array Obj} {d1 : Nat} {g : Nat} (hg : Gro (gro (X.alloc (.cells #[] e)) objs d1) W) (hgX : g = X.heap.size)
    {B : Nat} {e' : TypeId} {A2 : Option Addr} {m c2 : Nat} {ys : List α} (hy : (T.sl e').R W B [.slice A2 m c2] ys)
    (ho : o.op = .call { callee := .builtin .append, args := #[s, x], argTypes := #[t, t] }) (hs : a.eval s = .slice (some ⟨g, 0, none⟩) 0 0) (hx : a.eval x = .slice A2 m c2)
    (hb : m * bytes ≤ 140737488355328) (h63 : m ≤ 9223372036854775807)
    (hK : ∀ A' c'' os' os2 d2, os'.size = 1 → Fr2N (T.sl e) X.heap.size (X.heap.size + 1) (X.heap.size + 1 + objs.size) (gro (gro (gro X os' X.drawn) objs d1) os2 d2) [.slice A' m c''] ys → K (a.put o.dst (.slice A' m c'')) (gro (gro (gro X os' X.drawn) objs d1) os2 d2)) : if Region.wanted o (yielded ops a.tmps) = true then Oper.wp P o a W K Q else E := by
  have hw : Region.wanted o (yielded ops a.tmps) = true := by simp [Region.wanted, hgd]
  rw [if_pos hw]
  obtain ⟨A', c'', os', os2, d2, hrun, hos, hF⟩ := run_append_over (P := P) (ty := o.type) hE hf hg hgX hy hb h63
  exact wp_of_run_append s x ho hs hx hrun (hK A' c'' os' os2 d2 hos hF)
end
end Go.Proofs.Ytbhobjepjaeffaa
