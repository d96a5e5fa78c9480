/-
  MERGE: MergeProfiles of the program and of the reference.
-/
import Derived.Test.YtdlkoffandhclaaDoorTidy
set_option linter.unusedVariables false
set_option linter.unusedSimpArgs false
namespace Go.Proofs.YtdlkoffandhclaaDoor
open Go.RowKit
theorem fresh_gro2 {α : Type} {T : Ty α} {Y : World} {os os' : Array Obj} {d d' : Nat} {cs : List Value} {x : α} (h : Fresh T Y (gro Y os d) cs x) : Fresh T Y (gro Y (os ++ os') d') cs x := by
  rw [← gro_gro os os' d d']
  exact h.gro (Gro.of _ _ _)
theorem gro2_alloc {Y : World} {os os' : Array Obj} {d d' : Nat} {b : Obj} : Gro ((gro Y (os ++ os') d').alloc b) ((gro (gro Y os d) os' d').alloc b) := by
  rw [gro_gro]
  exact Gro.refl _
theorem gro_of2 {Y : World} {os os' : Array Obj} {d d' : Nat} : Gro Y (gro (gro Y os d) os' d') := by
  rw [gro_gro]
  exact Gro.of _ _ _
theorem arr_split (o : Array Obj) (n m : Nat) (h : o.size = n + m) : ∃ x y : Array Obj, o = x ++ y ∧ x.size = n ∧ y.size = m := by
  refine ⟨⟨o.toList.take n⟩, ⟨o.toList.drop n⟩, ?_, ?_, ?_⟩
  · apply Array.toList_inj.1
    simp
  · have : o.toList.length = n + m := by simpa using h
    simp
    omega
  · have : o.toList.length = n + m := by simpa using h
    simp
    omega
section
variable {α : Type} {T : Ty α} {e : TypeId} {P : Program} {t : TypeId} {bytes : Nat} {ops : Array Oper} {o : Oper} {a : Act} {Q : Exit → Act → World → Prop} {K : Act → World → Prop}
/-- 'append(own, read...)' in a region that draws; a box lies behind the list -/
theorem step_append_flat1 {E : Prop} (hgd : o.guard = none) (s x : Operand) (hE : Elem P t e T bytes) (hf : Flat T) {X W : World} {os : Array Obj} {d : Nat} {b : Obj} {A : Option Addr} {n c : Nat} {xs : List α} (h : Fresh (T.sl e) X (Go.Proofs.YtdlkoffandhclaaDoor.gro X os d) [.slice A n c] xs) (hg : Gro ((Go.Proofs.YtdlkoffandhclaaDoor.gro X os d).alloc b) W)
    {B : Nat} {e' : TypeId} {A2 : Option Addr} {m c2 : Nat} {ys : List α} (hy : (T.sl e').R W B [.slice A2 m c2] ys)
    (ho : o.op = .call { callee := .builtin .append, args := #[s, x], argTypes := #[t, t] }) (hs : a.eval s = .slice A n c) (hx : a.eval x = .slice A2 m c2)
    {L : Nat} (hL : L = n + m) (hb : L * bytes ≤ 140737488355328) (h63 : L ≤ 9223372036854775807)
    (hK : ∀ A' c'' os' os2 d2, os'.size = os.size → Fresh (T.sl e) X (Go.Proofs.YtdlkoffandhclaaDoor.gro ((Go.Proofs.YtdlkoffandhclaaDoor.gro X os' d).alloc b) os2 d2) [.slice A' L c''] (xs ++ ys) → K (a.put o.dst (.slice A' L c'')) (Go.Proofs.YtdlkoffandhclaaDoor.gro ((Go.Proofs.YtdlkoffandhclaaDoor.gro X os' d).alloc b) os2 d2)) : if Region.wanted o (yielded ops a.tmps) = true then Oper.wp P o a W K Q else E := by
  have hw : Region.wanted o (yielded ops a.tmps) = true := by simp [Region.wanted, hgd]
  rw [if_pos hw]
  have hfe : Fre (T.sl e) X (Go.Proofs.YtdlkoffandhclaaDoor.gro X os d).heap.size W [.slice A n c] xs := by
    obtain ⟨S, h1, h2, h3⟩ := h.fre
    exact ⟨S, (T.sl e).groO h1 (((Gro.refl _).alloc b).trans hg), h2, h3⟩
  obtain ⟨A', c'', W', hrun, ⟨row, hgr, hrow⟩, hF⟩ := run_append_flat (P := P) (ty := o.type) hE hf (m0 := X.heap.size + os.size + 1) (by have := hg.size; rw [World.size_alloc, gro_size] at this; exact this) hfe hy hL hb h63
  obtain ⟨os', os2, d2, hos, rfl⟩ := relit1 hg hgr (fun k hk => by have := hrow k hk; rw [gro_size] at this; exact this)
  exact wp_of_run_append s x ho hs hx hrun (hK A' c'' os' os2 d2 hos (hF.fresh (by omega)))
/-- .. two calls' blocks lie between -/
theorem step_append_flat2 {E : Prop} (hgd : o.guard = none) (s x : Operand) (hE : Elem P t e T bytes) (hf : Flat T) {X W : World} {os os1 : Array Obj} {d d1 : Nat} {b : Obj} {A : Option Addr} {n c : Nat} {xs : List α} (h : Fresh (T.sl e) X (Go.Proofs.YtdlkoffandhclaaDoor.gro X os d) [.slice A n c] xs) (hg : Gro ((Go.Proofs.YtdlkoffandhclaaDoor.gro (Go.Proofs.YtdlkoffandhclaaDoor.gro X os d) os1 d1).alloc b) W)
    {B : Nat} {e' : TypeId} {A2 : Option Addr} {m c2 : Nat} {ys : List α} (hy : (T.sl e').R W B [.slice A2 m c2] ys)
    (ho : o.op = .call { callee := .builtin .append, args := #[s, x], argTypes := #[t, t] }) (hs : a.eval s = .slice A n c) (hx : a.eval x = .slice A2 m c2)
    {L : Nat} (hL : L = n + m) (hb : L * bytes ≤ 140737488355328) (h63 : L ≤ 9223372036854775807)
    (hK : ∀ A' c'' os' os1' os2 d2, os'.size = os.size → os1'.size = os1.size → Fresh (T.sl e) X (Go.Proofs.YtdlkoffandhclaaDoor.gro ((Go.Proofs.YtdlkoffandhclaaDoor.gro (Go.Proofs.YtdlkoffandhclaaDoor.gro X os' d) os1' d1).alloc b) os2 d2) [.slice A' L c''] (xs ++ ys) → K (a.put o.dst (.slice A' L c'')) (Go.Proofs.YtdlkoffandhclaaDoor.gro ((Go.Proofs.YtdlkoffandhclaaDoor.gro (Go.Proofs.YtdlkoffandhclaaDoor.gro X os' d) os1' d1).alloc b) os2 d2)) : if Region.wanted o (yielded ops a.tmps) = true then Oper.wp P o a W K Q else E := by
  refine step_append_flat1 (os := os ++ os1) (d := d1) (b := b) hgd s x hE hf (fresh_gro2 h) (by rw [← gro_gro os os1 d d1]; exact hg) hy ho hs hx hL hb h63 ?_
  intro A' c'' o9 os2 d2 h9 hF
  rw [Array.size_append] at h9
  obtain ⟨x9, y9, rfl, hx9, hy9⟩ := arr_split o9 _ _ h9
  rw [← gro_gro x9 y9 d d1] at hF ⊢
  exact hK A' c'' x9 y9 os2 d2 hx9 hy9 hF
end
theorem fresh_drew {α : Type} {T : Ty α} {a b : World} {cs : List Value} {x : α} : Fresh T a.drew b cs x = Fresh T a b cs x := rfl
def mergeP (p q : DProfile) : DProfile × Bool := if profileOk p && profileOk q then profR (entriesOf p ++ entriesOf q) else (emptyP, false)
theorem mergeP_len {p q : DProfile} (h : szProfile p + szProfile q ≤ 1048576) : (mergeP p q).1.Stacks.Nodes.length ≤ 122500000000 ∧ (mergeP p q).1.Counts.length ≤ 122500000000 ∧ frSum (entriesOf p ++ entriesOf q) ≤ 122500000000 := by
  have h5 : frSum (entriesOf p ++ entriesOf q) ≤ 122500000000 := by
    rw [frSum_app]
    have hp : frSum (entriesOf p) ≤ p.Stacks.Nodes.length * p.Stacks.Nodes.length := frSum_ents p
    have hq : frSum (entriesOf q) ≤ q.Stacks.Nodes.length * q.Stacks.Nodes.length := frSum_ents q
    cases kp : profileOk p
    · rw [ents_bad kp]
      have h0 : frSum [] = 0 := rfl
      have := frSum_small (p := q) (by omega)
      omega
    · cases kq : profileOk q
      · rw [ents_bad kq]
        have h0 : frSum [] = 0 := rfl
        have := frSum_small (p := p) (by omega)
        omega
      · have h1 := prof_three kp
        have h2 := prof_three kq
        have h4 := sq_le (n := p.Stacks.Nodes.length + q.Stacks.Nodes.length) (m := 350000) (by omega)
        have h6 : (p.Stacks.Nodes.length + q.Stacks.Nodes.length) * (p.Stacks.Nodes.length + q.Stacks.Nodes.length) = p.Stacks.Nodes.length * p.Stacks.Nodes.length + p.Stacks.Nodes.length * q.Stacks.Nodes.length + (q.Stacks.Nodes.length * p.Stacks.Nodes.length + q.Stacks.Nodes.length * q.Stacks.Nodes.length) := by
          rw [Nat.add_mul, Nat.mul_add, Nat.mul_add]
        omega
  refine ⟨?_, ?_, h5⟩
  all_goals
    unfold mergeP
    split
    · have := profR_len (entriesOf p ++ entriesOf q)
      omega
    · exact Nat.zero_le _
theorem ents_sz2 {p q : DProfile} {j : Nat} {e : DEntry} (h : (entriesOf p ++ entriesOf q)[j]? = some e) : e.Stack.size ≤ 12 * (p.Stacks.Nodes.length + q.Stacks.Nodes.length) := by
  have := List.mem_of_getElem? h
  rcases List.mem_append.1 this with h | h
  · obtain ⟨k, hk, rfl⟩ := List.getElem_of_mem h
    have := ents_sz (List.getElem?_eq_getElem hk)
    omega
  · obtain ⟨k, hk, rfl⟩ := List.getElem_of_mem h
    have := ents_sz (List.getElem?_eq_getElem hk)
    omega
end Go.Proofs.YtdlkoffandhclaaDoor
