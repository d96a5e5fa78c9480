/-
  APPEND: 'append' onto a list of the call's own, in the words of Base: over any program. The world behind it is 'gro W0 os d', W0 the world as it was when the list was begun (or any earlier part of it that holds no block of the list).
-/
import Derived.Test.YtbhobjepjaeffaaBase
import Derived.RegionTactic
set_option linter.unusedVariables false
set_option linter.unusedSimpArgs false
namespace Go.Proofs.Ytbhobjepjaeffaa
open Go.RowKit
/-- what is asked of the types of a slice (t) and of its elements (e) -/
structure Elem (P : Program) (t e : TypeId) {α : Type} (T : Ty α) (bytes : Nat) : Prop where
  ht : P.underlying t = some (.slice e)
  info : ∃ i z, P.info? e = some i ∧ i.zero = some z ∧ i.size = T.size ∧ i.bytes = bytes ∧ z.cells.size = T.size
  pos : 0 < T.size
/-- 'xs[k:]', its address under one name -/
theorem run_from {P : Program} {t e e' : TypeId} {α : Type} {T : Ty α} {bytes : Nat} (hE : Elem P t e T bytes) {w : World} {B : Nat} {A : Option Addr} {n c k : Nat} {xs : List α} (h : (T.sl e').R w B [.slice A n c] xs) (hk : k ≤ n) :
    ∃ A', (∀ W, (Instr.sliceAt t (.slice A n c) (some (.int .i64 (k : Int))) none none).run P W = .ok (.slice A' (n - k) (c - k)) W) ∧ (T.sl e').R w B [.slice A' (n - k) (c - k)] (xs.drop k) := by
  refine ⟨_, fun W => ?_, sl_drop h hk⟩
  obtain ⟨i, z, hi, hz, hsize, hby, hzs⟩ := hE.info
  have hnc : n ≤ c := by
    obtain ⟨A', c', h1, h2, _⟩ := h
    injection h1 with h1 _
    injection h1 with hA hn hc
    subst hA hn hc
    exact h2
  simp [Instr.sliceAt, Instr.slice, Instr.sliceBounds, Instr.sliceBound, asIntOf, run_underlying hE.ht, sizeOf, typeInfo, hi, hsize]
  intro h
  omega
/-- 'xs[:k]' -/
theorem run_upto {P : Program} {t e e' : TypeId} {α : Type} {T : Ty α} {bytes : Nat} (hE : Elem P t e T bytes) {w : World} {B : Nat} {A : Option Addr} {n c k : Nat} {xs : List α} (h : (T.sl e').R w B [.slice A n c] xs) (hk : k ≤ n) :
    (∀ W, (Instr.sliceAt t (.slice A n c) none (some (.int .i64 (k : Int))) none).run P W = .ok (.slice A k c) W) ∧ (T.sl e').R w B [.slice A k c] (xs.take k) := by
  refine ⟨fun W => ?_, sl_take h hk⟩
  obtain ⟨i, z, hi, hz, hsize, hby, hzs⟩ := hE.info
  have hnc : n ≤ c ∧ (A = none → c = 0) := by
    obtain ⟨A', c', h1, h2, _, h4, _⟩ := h
    injection h1 with h1 _
    injection h1 with hA hn hc
    subst hA hn hc
    exact ⟨h2, h4⟩
  have hA : A.map (fun a => a.add 0) = A := by cases A <;> simp [Addr.add]
  simp [Instr.sliceAt, Instr.slice, Instr.sliceBounds, Instr.sliceBound, asIntOf, run_underlying hE.ht, sizeOf, typeInfo, hi, hA]
  intro h
  omega
/-- elements without memory of their own -/
def Flat {α : Type} (T : Ty α) : Prop := ∀ {w B cs x}, T.R w B cs x → ∀ w', T.O w' cs x []
theorem flat_int : Flat intT := fun h _ => ⟨h.1, h.2.1, h.2.2, rfl⟩
theorem flat_bool : Flat boolT := fun h _ => ⟨h, rfl⟩
theorem flat_str : Flat strT := fun h _ => ⟨h.1, h.2, rfl⟩
theorem flat_prod {α β : Type} {T : Ty α} {U : Ty β} (h : Flat T) (k : Flat U) : Flat (T.prod U) := fun ⟨c1, c2, h1, h2, h3⟩ w' => ⟨c1, c2, [], [], h1, rfl, h h2 w', k h3 w'⟩
theorem flat_via {α β : Type} {T : Ty α} (f : β → α) (h : Flat T) : Flat (T.via f) := fun h1 w' => h h1 w'
section
variable {α : Type} {T : Ty α} {e : TypeId}
theorem fresh_nil (W0 W : World) : Fresh (T.sl e) W0 W [.slice none 0 0] [] :=
  ⟨[], ⟨none, 0, [], [], rfl, World.ownsRow_nil W 0 e T.size, ⟨rfl, rfl⟩, rfl⟩, by simp, by simp⟩
theorem fre_nil (W0 W : World) : Fre (T.sl e) W0 0 W [.slice none 0 0] [] :=
  ⟨[], ⟨none, 0, [], [], rfl, World.ownsRow_nil W 0 e T.size, ⟨rfl, rfl⟩, rfl⟩, by simp, by simp⟩
theorem fresh_empty {W0 W : World} (hg : Gro W0 W) {g : Nat} (hgW : g = W.heap.size) : Fresh (T.sl e) W0 (W.alloc (.cells #[] e)) [.slice (some ⟨g, 0, none⟩) 0 0] [] := by
  subst hgW
  refine ⟨[W.heap.size], ⟨_, 0, [], [], rfl, ?_, ⟨rfl, rfl⟩, by simp [blockOf]⟩, by simp, fun b hb => ?_⟩
  · exact World.ownsRow_made W #[] 0 (Nat.zero_le _) (Nat.zero_le _) (by simp)
  · simp at hb
    subst hb
    exact hg.size
theorem fresh_empty2 {W0 X W : World} (hg : Gro (X.alloc (.cells #[] e)) W) (h0 : Gro W0 X) {g : Nat} (hgW : g = X.heap.size) : Fresh (T.sl e) W0 W [.slice (some ⟨g, 0, none⟩) 0 0] [] :=
  (fresh_empty h0 hgW).gro hg
/-- the rows of a flat list that is read -/
theorem rows_of_flat (hf : Flat T) {w w' : World} {B g off : Nat} : ∀ (xs : List α) (k : Nat), (∀ i x, xs[i]? = some x → ∃ ec, T.R w B ec x ∧ ∀ (j : Nat) (u : Value), ec[j]? = some u → w.cell? ⟨g, off + (k + i) * T.size + j, none⟩ = some u) →
    ∃ cs, Rows T w' cs xs [] ∧ cs.length = xs.length * T.size ∧ ∀ (j : Nat) (u : Value), cs[j]? = some u → w.cell? ⟨g, off + k * T.size + j, none⟩ = some u
  | [], k, _ => ⟨[], ⟨rfl, rfl⟩, by simp, fun j u hu => by simp at hu⟩
  | x :: xs, k, h => by
    obtain ⟨ec, hR, hc⟩ := h 0 x rfl
    obtain ⟨cs, h1, h2, h3⟩ := rows_of_flat hf xs (k + 1) (fun i y hy => by
      obtain ⟨ec', hR', hc'⟩ := h (i + 1) y (by simpa using hy)
      exact ⟨ec', hR', fun j u hu => by have := hc' j u hu; rw [show k + (i + 1) = k + 1 + i from by omega] at this; exact this⟩)
    have hl := T.lenR hR
    refine ⟨ec ++ cs, ⟨ec, cs, [], [], rfl, rfl, hf hR _, h1⟩, by rw [List.length_append, hl, h2, List.length_cons, Nat.add_mul, Nat.one_mul, Nat.add_comm], fun j u hu => ?_⟩
    rw [List.getElem?_append] at hu
    split at hu
    · exact hc j u hu
    · rename_i hj
      have := h3 _ u hu
      rw [Nat.add_mul, Nat.one_mul] at this
      rw [hl] at hj
      rw [hl] at this
      rw [show off + k * T.size + j = off + (k * T.size + T.size) + (j - T.size) from by omega]
      exact this
section
variable {P : Program} {t ty : TypeId} {bytes : Nat}
/-- the run: new cells behind an owned list -/
theorem run_append_fresh (hE : Elem P t e T bytes) {W0 W : World} {hi0 : Nat} {A : Option Addr} {n c : Nat} {xs : List α} (h : Fre (T.sl e) W0 hi0 W [.slice A n c] xs)
    {ad : Addr} {m c' : Nat} {ys : List α} {news : List Value} {Sy : List Nat} (hr : Rows T W news ys Sy) (hm : m = ys.length) (hcell : ∀ j u, news[j]? = some u → W.cell? (ad.add j) = some u)
    (hSy : Sy.Nodup) {m0 : Nat} (hm0 : m0 ≤ W.heap.size) (hSy0 : ∀ b ∈ Sy, W0.heap.size ≤ b ∧ hi0 ≤ b ∧ m0 ≤ b)
    {L : Nat} (hL : L = n + m) (hb : L * bytes ≤ 140737488355328) (h63 : L ≤ 9223372036854775807) :
    ∃ A' c'' W', (Builtin.append_ #[t, t] ty #[.slice A n c, .slice (some ad) m c']).run P W = .ok (.slice A' L c'') W' ∧ (∃ row, W.grownBy W' row ∧ ∀ k, row = some k → W0.heap.size ≤ k ∧ k < hi0) ∧ Fr2 (T.sl e) W0 hi0 m0 W' [.slice A' L c''] (xs ++ ys) := by
  subst hL
  obtain ⟨S, hO, hN, hS01⟩ := h
  have hS0 : ∀ b ∈ S, W0.heap.size ≤ b := fun b hb => (hS01 b hb).1
  have hd : ∀ b ∈ S, b ∉ Sy := fun b hb hm => by have h1 := (hS01 b hb).2; have h2 := (hSy0 b hm).2.1; omega
  obtain ⟨A1, c1, ecs, S', hv, how, hrow, rfl⟩ := hO
  injection hv with hv _
  injection hv with hA hn hc
  subst hA hc
  have hn' : n = xs.length := hn
  obtain ⟨i, z, hi, hz, hsize, hby, hzs⟩ := hE.info
  have hlen : news.length = m * T.size := by rw [hr.len, hm]
  obtain ⟨v', W', hrun, hown, hgrown, _, hat⟩ := run_append_own_at (P := P) W 0 t ty e i z T.size bytes hE.ht hi hz hsize hby hzs hE.pos (.slice A xs.length c) xs.length ecs how ad m c' news hlen hcell hr.one
    (by rw [← hn']; simpa [maxLen] using h63) (by rw [← hn']; exact hb) (Nat.zero_le _)
  subst hn'
  have hG : ∃ row, W.grownBy W' row ∧ ∀ k, row = some k → W0.heap.size ≤ k ∧ k < hi0 := ⟨_, hgrown, fun k hk => by
    cases A with
    | none => simp [Value.ownBlock] at hk
    | some a =>
      simp [Value.ownBlock] at hk
      exact hS01 k (by simp [blockOf, hk])⟩
  -- the elements' own blocks have not turned
  have hkeep : ∀ k, k < W.heap.size → (∀ b ∈ blockOf A, k ≠ b) → W'.heap[k]? = W.heap[k]? := fun k hk hne => hgrown.block k hk (by
    cases A with
    | none => simp [Value.ownBlock]
    | some a => simpa [Value.ownBlock, blockOf] using hne)
  rw [List.nodup_append] at hN
  obtain ⟨hN1, hN2, hN3⟩ := hN
  have hrow' : Rows T W' ecs xs S' := hrow.keep (fun k hk => hkeep k (hrow.lt k hk) (fun b hb => (hN3 b hb k hk).symm))
  have hr' : Rows T W' news ys Sy := hr.keep (fun k hk => hkeep k (hr.lt k hk) (fun b hb heq => hd b (List.mem_append_left _ hb) (heq ▸ hk)))
  have hshape : ∃ A' c'', v' = .slice A' (xs.length + m) c'' ∧ ∀ b ∈ blockOf A', b ∈ blockOf A ∨ b = W.heap.size := by
    rcases hown.2 with ⟨rfl, h0⟩ | ⟨g, cap, cur, rfl, _⟩
    · exact ⟨none, 0, by rw [h0], by simp [blockOf]⟩
    · refine ⟨_, cap, rfl, fun b hb => ?_⟩
      simp [blockOf] at hb
      subst hb
      rcases hat with h | h
      · left
        cases A with
        | none => simp [Value.ownBlock] at h
        | some a => simp [Value.ownBlock] at h; simp [blockOf, h]
      · right
        simpa [Value.ownBlock] using h
  obtain ⟨A', c'', rfl, hA'⟩ := hshape
  refine ⟨A', c'', W', hrun, hG, blockOf A' ++ (S' ++ Sy), ⟨A', c'', ecs ++ news, S' ++ Sy, by rw [List.length_append, hm], by rw [List.length_append, ← hm]; exact hown, hrow'.app hr', rfl⟩, ?_, ?_⟩
  · rw [List.nodup_append]
    refine ⟨by cases A' <;> simp [blockOf], List.nodup_append.2 ⟨hN2, hSy, fun a ha b hb heq => hd a (List.mem_append_right _ ha) (heq ▸ hb)⟩, fun a ha b hb heq => ?_⟩
    subst heq
    rcases hA' a ha with h | h
    · rcases List.mem_append.1 hb with hb | hb
      · exact hN3 a h a hb rfl
      · exact hd a (List.mem_append_left _ h) hb
    · subst h
      rcases List.mem_append.1 hb with hb | hb
      · exact absurd (hrow.lt _ hb) (Nat.lt_irrefl _)
      · exact absurd (hr.lt _ hb) (Nat.lt_irrefl _)
  · intro b hb
    rcases List.mem_append.1 hb with hb | hb
    · rcases hA' b hb with h | h
      · exact .inl (hS01 b (List.mem_append_left _ h))
      · rw [h]; exact .inr hm0
    · rcases List.mem_append.1 hb with hb | hb
      · exact .inl (hS01 b (List.mem_append_right _ hb))
      · exact .inr (hSy0 b hb).2.2
/-- .. nothing to append -/
theorem run_append_fresh_nil (hE : Elem P t e T bytes) {W0 W : World} {A : Option Addr} {n c : Nat} {xs : List α} (h : Fresh (T.sl e) W0 W [.slice A n c] xs) (c' : Nat) :
    (Builtin.append_ #[t, t] ty #[.slice A n c, .slice none 0 c']).run P W = .ok (.slice A n c) W := by
  obtain ⟨S, hO, hN, hS0⟩ := h
  obtain ⟨A1, c1, ecs, S', hv, how, hrow, rfl⟩ := hO
  injection hv with hv _
  injection hv with hA hn hc
  subst hA hc hn
  obtain ⟨i, z, hi, hz, hsize, hby, hzs⟩ := hE.info
  rcases how.2 with ⟨hv, h0⟩ | ⟨g, cap, cur, hv, _, _, hnc, _⟩
  · rw [hv]
    simp [Builtin.append_, run_underlying hE.ht, sizeOf, typeInfo, hi, Builtin.lenOf, Builtin.firstCells]
  · rw [hv]
    simp [Builtin.append_, run_underlying hE.ht, sizeOf, typeInfo, hi, Builtin.lenOf, Builtin.firstCells, hnc, storeCells]
/-- a flat list that is read goes behind an owned list -/
theorem run_append_flat (hE : Elem P t e T bytes) (hf : Flat T) {W0 W : World} {hi0 m0 : Nat} (hm0 : m0 ≤ W.heap.size) {A : Option Addr} {n c : Nat} {xs : List α} (h : Fre (T.sl e) W0 hi0 W [.slice A n c] xs)
    {B : Nat} {e' : TypeId} {A2 : Option Addr} {m c2 : Nat} {ys : List α} (hy : (T.sl e').R W B [.slice A2 m c2] ys)
    {L : Nat} (hL : L = n + m) (hb : L * bytes ≤ 140737488355328) (h63 : L ≤ 9223372036854775807) :
    ∃ A' c'' W', (Builtin.append_ #[t, t] ty #[.slice A n c, .slice A2 m c2]).run P W = .ok (.slice A' L c'') W' ∧ (∃ row, W.grownBy W' row ∧ ∀ k, row = some k → W0.heap.size ≤ k ∧ k < hi0) ∧ Fr2 (T.sl e) W0 hi0 m0 W' [.slice A' L c''] (xs ++ ys) := by
  obtain ⟨A3, c3, hv, h1, h2, h3, h4⟩ := hy
  injection hv with hv _
  injection hv with hA hn hc
  subst hA hn hc
  rcases Nat.eq_zero_or_pos ys.length with h0 | h0
  · have hys : ys = [] := List.eq_nil_of_length_eq_zero h0
    subst hys
    subst hL
    cases A2 with
    | none => exact ⟨A, c, W, run_append_fresh_nil hE h.fresh _, ⟨none, World.grownBy.refl W none, fun k hk => by simp at hk⟩, by
        obtain ⟨S, h1, h2, h3⟩ := h
        exact ⟨S, by simpa using h1, h2, fun b hb => .inl (h3 b hb)⟩⟩
    | some ad =>
      exact run_append_fresh hE h (ad := ad) (m := 0) (news := []) (ys := []) (Sy := []) ⟨rfl, rfl⟩ rfl (fun j u hu => by simp at hu) (by simp) hm0 (by simp) rfl hb h63
  · obtain ⟨g, off, rfl, hgB, h5⟩ := h4 h0
    obtain ⟨cs, hr, hl, hc⟩ := rows_of_flat (w' := W) hf (g := g) (off := off) ys 0 (fun i x hx => by
      obtain ⟨ec, hR, hcc⟩ := h5 i x hx
      exact ⟨ec, hR, fun j u hu => by rw [Nat.zero_add]; exact hcc j u hu⟩)
    exact run_append_fresh hE h (ad := ⟨g, off, none⟩) hr rfl (fun j u hu => by rw [Addr.add_lit]; simpa using hc j u hu) (by simp) hm0 (by simp) hL hb h63
end
section
variable {P : Program} {t : TypeId} {bytes : Nat} {ops : Array Oper} {rest : List Oper} {o : Oper} {a : Act} {Q : Exit → Act → World → Prop} {K : Act → World → Prop}
theorem wp_of_run_append {A : Option Addr} {n c : Nat} {v2 v' : Value} {W W' : World} (s x : Operand) (ho : o.op = .call { callee := .builtin .append, args := #[s, x], argTypes := #[t, t] }) (hs : a.eval s = .slice A n c) (hx : a.eval x = v2)
    (hrun : (Builtin.append_ #[t, t] o.type #[.slice A n c, v2]).run P W = .ok v' W') (h : K (a.put o.dst v') W') : o.wp P a W K Q := by
  unfold Oper.wp execOp
  simp only [ho, resolve, invoke, builtin, Sem.run_bind, Sem.run_pure, Result.andThen_ok, List.map_toArray, List.map_cons, List.map_nil, hs, hx, hrun]
  exact h
/-- the world, written out again behind an append: boxes 'objs' lie behind the blocks os in which the list lies -/
theorem relit {X W W' : World} {os objs : Array Obj} {d d1 : Nat} (hW : Gro (gro (gro X os d) objs d1) W) {row : Option Nat} (hg : W.grownBy W' row) (hr : ∀ k, row = some k → X.heap.size ≤ k ∧ k < X.heap.size + os.size) :
    ∃ os' os2 d2, os'.size = os.size ∧ W' = gro (gro (gro X os' d) objs d1) os2 d2 := by
  have hsz : X.heap.size + os.size + objs.size ≤ W.heap.size := by have := hW.size; simp at this; omega
  have hsz' : W.heap.size ≤ W'.heap.size := hg.size
  refine ⟨W'.heap.extract X.heap.size (X.heap.size + os.size), W'.heap.extract (X.heap.size + os.size + objs.size) W'.heap.size, W'.drawn, by simp; omega, ?_⟩
  have hb := hW.below
  have hh : W'.heap = X.heap ++ W'.heap.extract X.heap.size (X.heap.size + os.size) ++ objs ++ W'.heap.extract (X.heap.size + os.size + objs.size) W'.heap.size := by
    apply Array.ext_getElem?
    intro k
    have hes : (W'.heap.extract X.heap.size (X.heap.size + os.size)).size = os.size := by simp; omega
    have hW' : ∀ k, k < X.heap.size + os.size + objs.size → (k < X.heap.size ∨ X.heap.size + os.size ≤ k) → W'.heap[k]? = (X.heap ++ os ++ objs)[k]? := fun k hk hne => by
      rw [hg.block k (by omega) (fun e => by have := hr k e.symm; omega)]
      have := hW.block (k := k) (by simp; omega)
      rw [this]
      simp [gro]
    by_cases h1 : k < X.heap.size
    · rw [hW' k (by omega) (.inl h1)]
      rw [Array.append_assoc, Array.append_assoc, Array.append_assoc, Array.getElem?_append_left h1, Array.getElem?_append_left h1]
    · by_cases h2 : k < X.heap.size + os.size
      · rw [Array.append_assoc, Array.append_assoc, Array.getElem?_append_right (by omega), Array.getElem?_append_left (by omega), Array.getElem?_extract, if_pos (by omega)]
        congr 1
        omega
      · by_cases h3 : k < X.heap.size + os.size + objs.size
        · rw [hW' k h3 (.inr (by omega))]
          rw [Array.getElem?_append_right (by simp; omega)]
          rw [Array.getElem?_append_left (by simp only [Array.size_append, hes]; omega), Array.getElem?_append_right (by simp only [Array.size_append, hes]; omega)]
          simp only [Array.size_append, hes]
        · rw [Array.getElem?_append_right (by simp only [Array.size_append, hes]; omega), Array.getElem?_extract]
          simp only [Array.size_append, hes]
          split
          · congr 1
            omega
          · rw [Array.getElem?_eq_none]
            omega
  have h1 : W'.os = X.os := hg.os.trans hb.os
  have h2 : W'.tape = X.tape := hg.tape.trans hb.tape
  have h3 : W'.output = X.output := hg.output.trans hb.output
  unfold gro
  rw [← hh]
  cases X
  cases W'
  simp only at h1 h2 h3
  subst h1 h2 h3
  rfl
theorem relit1 {X W W' : World} {os : Array Obj} {d : Nat} {b : Obj} (hW : Gro ((gro X os d).alloc b) W) {row : Option Nat} (hg : W.grownBy W' row) (hr : ∀ k, row = some k → X.heap.size ≤ k ∧ k < X.heap.size + os.size) :
    ∃ os' os2 d2, os'.size = os.size ∧ W' = gro ((gro X os' d).alloc b) os2 d2 := by
  rw [gro_of_alloc] at hW
  obtain ⟨os', os2, d2, h1, h2⟩ := relit hW hg hr
  exact ⟨os', os2, d2, h1, by rw [gro_of_alloc]; exact h2⟩
theorem relit2 {X W W' : World} {os : Array Obj} {d : Nat} {b b2 : Obj} (hW : Gro (((gro X os d).alloc b).alloc b2) W) {row : Option Nat} (hg : W.grownBy W' row) (hr : ∀ k, row = some k → X.heap.size ≤ k ∧ k < X.heap.size + os.size) :
    ∃ os' os2 d2, os'.size = os.size ∧ W' = gro (((gro X os' d).alloc b).alloc b2) os2 d2 := by
  have e : ∀ os', ((gro X os' d).alloc b).alloc b2 = gro (gro X os' d) #[b, b2] d := fun os' => by
    rw [gro_of_alloc, gro_of_alloc, gro_gro]
    rfl
  rw [e] at hW
  obtain ⟨os', os2, d2, h1, h2⟩ := relit hW hg hr
  exact ⟨os', os2, d2, h1, by rw [e]; exact h2⟩
/-- 'append(own, read...)', flat elements, in the walk -/
theorem wpList_append_flat (hgd : o.guard = none) (s x : Operand) (hE : Elem P t e T bytes) (hf : Flat T) {W0 W : World} {A : Option Addr} {n c : Nat} {xs : List α} (h : Fresh (T.sl e) W0 W [.slice A n c] xs) (hg : Gro W0 W)
    {B : Nat} {e' : TypeId} {A2 : Option Addr} {m c2 : Nat} {ys : List α} (hy : (T.sl e').R W B [.slice A2 m c2] ys)
    (ho : o.op = .call { callee := .builtin .append, args := #[s, x], argTypes := #[t, t] }) (hs : a.eval s = .slice A n c) (hx : a.eval x = .slice A2 m c2)
    {L : Nat} (hL : L = n + m) (hb : L * bytes ≤ 140737488355328) (h63 : L ≤ 9223372036854775807)
    (hK : ∀ A' c'' os d, Fresh (T.sl e) W0 (gro W0 os d) [.slice A' L c''] (xs ++ ys) → wpList P ops Q rest (a.put o.dst (.slice A' L c'')) (gro W0 os d)) : wpList P ops Q (o :: rest) a W :=
  wpList_plain hgd fun K hKK => by
    obtain ⟨A', c'', W', hrun, ⟨row, hgr, hrow⟩, hF⟩ := run_append_flat (P := P) (ty := o.type) hE hf hg.size h.fre hy hL hb h63
    obtain ⟨os, d, rfl⟩ := hg.grown hgr (fun k hk => (hrow k hk).1)
    exact wp_of_run_append s x ho hs hx hrun (hKK _ _ (hK A' c'' os d (hF.fresh (Nat.le_refl _))))
/-- .. the list's own blocks lie before a box -/
theorem wpList_append_flat1 (hgd : o.guard = none) (s x : Operand) (hE : Elem P t e T bytes) (hf : Flat T) {W0 X W : World} {os : Array Obj} {d : Nat} {b : Obj} {hi0 : Nat} {A : Option Addr} {n c : Nat} {xs : List α} (h : Fre (T.sl e) W0 hi0 W [.slice A n c] xs) (hg : Gro ((gro X os d).alloc b) W)
    (hlo : X.heap.size ≤ W0.heap.size) (hhi : hi0 ≤ X.heap.size + os.size)
    {B : Nat} {e' : TypeId} {A2 : Option Addr} {m c2 : Nat} {ys : List α} (hy : (T.sl e').R W B [.slice A2 m c2] ys)
    (ho : o.op = .call { callee := .builtin .append, args := #[s, x], argTypes := #[t, t] }) (hs : a.eval s = .slice A n c) (hx : a.eval x = .slice A2 m c2)
    {L : Nat} (hL : L = n + m) (hb : L * bytes ≤ 140737488355328) (h63 : L ≤ 9223372036854775807)
    (hK : ∀ A' c'' os' os2 d2, os'.size = os.size → Fr2 (T.sl e) W0 hi0 (X.heap.size + os.size + 1) (gro ((gro X os' d).alloc b) os2 d2) [.slice A' L c''] (xs ++ ys) → wpList P ops Q rest (a.put o.dst (.slice A' L c'')) (gro ((gro X os' d).alloc b) os2 d2)) : wpList P ops Q (o :: rest) a W :=
  wpList_plain hgd fun K hKK => by
    obtain ⟨A', c'', W', hrun, ⟨row, hgr, hrow⟩, hF⟩ := run_append_flat (P := P) (ty := o.type) hE hf (m0 := X.heap.size + os.size + 1) (by have := hg.size; rw [World.size_alloc, gro_size] at this; exact this) h hy hL hb h63
    obtain ⟨os', os2, d2, hos, rfl⟩ := relit1 hg hgr (fun k hk => by have := hrow k hk; omega)
    exact wp_of_run_append s x ho hs hx hrun (hKK _ _ (hK A' c'' os' os2 d2 hos hF))
theorem run_append_one (hE : Elem P t e T bytes) {W0 W We : World} {ty : TypeId} {hi0 g cc m0 : Nat} (hm0 : m0 ≤ W.heap.size) (hm1 : m0 ≤ We.heap.size) {A : Option Addr} {n c : Nat} {xs : List α} (h : Fre (T.sl e) W0 hi0 W [.slice A n c] xs)
    {ec : List Value} {y : α} (hy : Fresh T We W ec y) (hhi : hi0 ≤ We.heap.size) (hWe : W0.heap.size ≤ We.heap.size) (hcell : ∀ (j : Nat) (u : Value), ec[j]? = some u → W.cell? ⟨g, j, none⟩ = some u)
    {L : Nat} (hL : L = n + 1) (hb : L * bytes ≤ 140737488355328) (h63 : L ≤ 9223372036854775807) :
    ∃ A' c'' W', (Builtin.append_ #[t, t] ty #[.slice A n c, .slice (some ⟨g, 0, none⟩) 1 cc]).run P W = .ok (.slice A' L c'') W' ∧ (∃ row, W.grownBy W' row ∧ ∀ k, row = some k → W0.heap.size ≤ k ∧ k < hi0) ∧ Fr2 (T.sl e) W0 hi0 m0 W' [.slice A' L c''] (xs ++ [y]) := by
  obtain ⟨Sy, hO, hSy, hSy0⟩ := hy
  exact run_append_fresh (P := P) (ty := ty) hE h (ad := ⟨g, 0, none⟩) (m := 1) (c' := cc) (ys := [y]) (news := ec) (Sy := Sy)
      ⟨ec, [], Sy, [], by simp, by simp, hO, rfl, rfl⟩ rfl
      (fun j u hu => by rw [Addr.add_lit, Nat.zero_add]; exact hcell j u hu) hSy hm0 (fun b hb => ⟨Nat.le_trans hWe (hSy0 b hb), Nat.le_trans hhi (hSy0 b hb), Nat.le_trans hm1 (hSy0 b hb)⟩)
      hL hb h63
/-- 'append(own, v)', one element of the call's own; its cells lie in a block of their own; in the walk -/
theorem wpList_append_one (hgd : o.guard = none) (s x : Operand) (hE : Elem P t e T bytes) {W0 W We : World} {hi0 g cc : Nat} {A : Option Addr} {n c : Nat} {xs : List α} (h : Fre (T.sl e) W0 hi0 W [.slice A n c] xs) (hg : Gro W0 W)
    {ec : List Value} {y : α} (hy : Fresh T We W ec y) (hhi : hi0 ≤ We.heap.size) (hWe : W0.heap.size ≤ We.heap.size)
    (ho : o.op = .call { callee := .builtin .append, args := #[s, x], argTypes := #[t, t] }) (hs : a.eval s = .slice A n c) (hx : a.eval x = .slice (some ⟨g, 0, none⟩) 1 cc)
    (hcell : ∀ (j : Nat) (u : Value), ec[j]? = some u → W.cell? ⟨g, j, none⟩ = some u)
    {L : Nat} (hL : L = n + 1) (hb : L * bytes ≤ 140737488355328) (h63 : L ≤ 9223372036854775807)
    (hK : ∀ A' c'' os d, Fresh (T.sl e) W0 (gro W0 os d) [.slice A' L c''] (xs ++ [y]) → wpList P ops Q rest (a.put o.dst (.slice A' L c'')) (gro W0 os d)) : wpList P ops Q (o :: rest) a W :=
  wpList_plain hgd fun K hKK => by
    obtain ⟨A', c'', W', hrun, ⟨row, hgr, hrow⟩, hF⟩ := run_append_one (P := P) (ty := o.type) hE hg.size hWe h hy hhi hWe hcell hL hb h63
    obtain ⟨os, d, rfl⟩ := hg.grown hgr (fun k hk => (hrow k hk).1)
    exact wp_of_run_append s x ho hs hx hrun (hKK _ _ (hK A' c'' os d (hF.fresh (Nat.le_refl _))))
theorem wpList_append_one1 (hgd : o.guard = none) (s x : Operand) (hE : Elem P t e T bytes) {W0 X W We : World} {os : Array Obj} {d : Nat} {b : Obj} {hi0 g cc : Nat} {A : Option Addr} {n c : Nat} {xs : List α} (h : Fre (T.sl e) W0 hi0 W [.slice A n c] xs) (hg : Gro ((gro X os d).alloc b) W)
    (hlo : X.heap.size ≤ W0.heap.size) (hhi0 : hi0 ≤ X.heap.size + os.size)
    {ec : List Value} {y : α} (hy : Fresh T We W ec y) (hhi : hi0 ≤ We.heap.size) (hWe : W0.heap.size ≤ We.heap.size) (hm1 : X.heap.size + os.size + 1 ≤ We.heap.size)
    (ho : o.op = .call { callee := .builtin .append, args := #[s, x], argTypes := #[t, t] }) (hs : a.eval s = .slice A n c) (hx : a.eval x = .slice (some ⟨g, 0, none⟩) 1 cc)
    (hcell : ∀ (j : Nat) (u : Value), ec[j]? = some u → W.cell? ⟨g, j, none⟩ = some u)
    {L : Nat} (hL : L = n + 1) (hb : L * bytes ≤ 140737488355328) (h63 : L ≤ 9223372036854775807)
    (hK : ∀ A' c'' os' os2 d2, os'.size = os.size → Fr2 (T.sl e) W0 hi0 (X.heap.size + os.size + 1) (gro ((gro X os' d).alloc b) os2 d2) [.slice A' L c''] (xs ++ [y]) → wpList P ops Q rest (a.put o.dst (.slice A' L c'')) (gro ((gro X os' d).alloc b) os2 d2)) : wpList P ops Q (o :: rest) a W :=
  wpList_plain hgd fun K hKK => by
    obtain ⟨A', c'', W', hrun, ⟨row, hgr, hrow⟩, hF⟩ := run_append_one (P := P) (ty := o.type) hE (m0 := X.heap.size + os.size + 1) (by have := hg.size; rw [World.size_alloc, gro_size] at this; exact this) hm1 h hy hhi hWe hcell hL hb h63
    obtain ⟨os', os2, d2, hos, rfl⟩ := relit1 hg hgr (fun k hk => by have := hrow k hk; omega)
    exact wp_of_run_append s x ho hs hx hrun (hKK _ _ (hK A' c'' os' os2 d2 hos hF))
theorem fresh_flat (hf : Flat T) {We W W1 : World} {B : Nat} {cs : List Value} {x : α} (h : T.R W1 B cs x) : Fresh T We W cs x := ⟨[], hf h W, by simp, by simp⟩
/-- .. one flat element -/
theorem wpList_append_fone (hgd : o.guard = none) (s x : Operand) (hE : Elem P t e T bytes) (hf : Flat T) {W0 W W1 : World} {hi0 B g cc : Nat} {A : Option Addr} {n c : Nat} {xs : List α} (h : Fre (T.sl e) W0 hi0 W [.slice A n c] xs) (hg : Gro W0 W)
    {ec : List Value} {y : α} (hy : T.R W1 B ec y)
    (ho : o.op = .call { callee := .builtin .append, args := #[s, x], argTypes := #[t, t] }) (hs : a.eval s = .slice A n c) (hx : a.eval x = .slice (some ⟨g, 0, none⟩) 1 cc)
    (hcell : ∀ (j : Nat) (u : Value), ec[j]? = some u → W.cell? ⟨g, j, none⟩ = some u)
    {L : Nat} (hL : L = n + 1) (hb : L * bytes ≤ 140737488355328) (h63 : L ≤ 9223372036854775807)
    (hK : ∀ A' c'' os d, Fresh (T.sl e) W0 (gro W0 os d) [.slice A' L c''] (xs ++ [y]) → wpList P ops Q rest (a.put o.dst (.slice A' L c'')) (gro W0 os d)) : wpList P ops Q (o :: rest) a W :=
  wpList_append_one hgd s x hE (h.fresh.fre) hg (We := W) (fresh_flat hf hy) (Nat.le_refl _) hg.size ho hs hx hcell hL hb h63 hK
theorem wpList_append_fone1 (hgd : o.guard = none) (s x : Operand) (hE : Elem P t e T bytes) (hf : Flat T) {W0 X W W1 : World} {os : Array Obj} {d : Nat} {b : Obj} {hi0 B g cc : Nat} {A : Option Addr} {n c : Nat} {xs : List α} (h : Fre (T.sl e) W0 hi0 W [.slice A n c] xs) (hg : Gro ((gro X os d).alloc b) W)
    (hlo : X.heap.size ≤ W0.heap.size) (hhi0 : hi0 ≤ X.heap.size + os.size) (hWX : W0.heap.size ≤ X.heap.size + os.size)
    {ec : List Value} {y : α} (hy : T.R W1 B ec y)
    (ho : o.op = .call { callee := .builtin .append, args := #[s, x], argTypes := #[t, t] }) (hs : a.eval s = .slice A n c) (hx : a.eval x = .slice (some ⟨g, 0, none⟩) 1 cc)
    (hcell : ∀ (j : Nat) (u : Value), ec[j]? = some u → W.cell? ⟨g, j, none⟩ = some u)
    {L : Nat} (hL : L = n + 1) (hb : L * bytes ≤ 140737488355328) (h63 : L ≤ 9223372036854775807)
    (hK : ∀ A' c'' os' os2 d2, os'.size = os.size → Fr2 (T.sl e) W0 hi0 (X.heap.size + os.size + 1) (gro ((gro X os' d).alloc b) os2 d2) [.slice A' L c''] (xs ++ [y]) → wpList P ops Q rest (a.put o.dst (.slice A' L c'')) (gro ((gro X os' d).alloc b) os2 d2)) : wpList P ops Q (o :: rest) a W := by
  have hs0 := hg.size
  rw [World.size_alloc, gro_size] at hs0
  exact wpList_append_one1 hgd s x hE h hg hlo hhi0 (We := W) (fresh_flat hf hy) (by omega) (by omega) (by omega) ho hs hx hcell hL hb h63 hK
/-- 'append(own, read...)' in a region that draws -/
theorem step_append_flat {E : Prop} (hgd : o.guard = none) (s x : Operand) (hE : Elem P t e T bytes) (hf : Flat T) {W0 W : World} {A : Option Addr} {n c : Nat} {xs : List α} (h : Fresh (T.sl e) W0 W [.slice A n c] xs) (hg : Gro W0 W)
    {B : Nat} {e' : TypeId} {A2 : Option Addr} {m c2 : Nat} {ys : List α} (hy : (T.sl e').R W B [.slice A2 m c2] ys)
    (ho : o.op = .call { callee := .builtin .append, args := #[s, x], argTypes := #[t, t] }) (hs : a.eval s = .slice A n c) (hx : a.eval x = .slice A2 m c2)
    {L : Nat} (hL : L = n + m) (hb : L * bytes ≤ 140737488355328) (h63 : L ≤ 9223372036854775807)
    (hK : ∀ A' c'' os d, Fresh (T.sl e) W0 (gro W0 os d) [.slice A' L c''] (xs ++ ys) → K (a.put o.dst (.slice A' L c'')) (gro W0 os d)) : if Region.wanted o (yielded ops a.tmps) = true then Oper.wp P o a W K Q else E := by
  have hw : Region.wanted o (yielded ops a.tmps) = true := by simp [Region.wanted, hgd]
  rw [if_pos hw]
  obtain ⟨A', c'', W', hrun, ⟨row, hgr, hrow⟩, hF⟩ := run_append_flat (P := P) (ty := o.type) hE hf hg.size h.fre hy hL hb h63
  obtain ⟨os, d, rfl⟩ := hg.grown hgr (fun k hk => (hrow k hk).1)
  exact wp_of_run_append s x ho hs hx hrun (hK A' c'' os d (hF.fresh (Nat.le_refl _)))
end
/-- of flat elements the list's own block is all that it holds -/
theorem flat_own (hf : Flat T) {w : World} {A : Option Addr} {n c : Nat} {xs : List α} {S : List Nat} (h : (T.sl e).O w [.slice A n c] xs S) : (T.sl e).O w [.slice A n c] xs (blockOf A) ∧ ∀ b ∈ blockOf A, b ∈ S := by
  obtain ⟨A', c', ecs, S', h1, h2, h3, rfl⟩ := h
  injection h1 with h1 _
  injection h1 with hA hn hc
  subst hA hn hc
  have key : ∀ (xs : List α) (cs : List Value) (S : List Nat), Rows T w cs xs S → Rows T w cs xs [] := by
    intro xs
    induction xs with
    | nil => intro cs S h; exact ⟨h.1, rfl⟩
    | cons x xs ih =>
      intro cs S h
      obtain ⟨c1, c2, S1, S2, e1, _, hx, hr⟩ := h
      exact ⟨c1, c2, [], [], e1, rfl, hf (T.read hx) w, ih _ _ hr⟩
  exact ⟨⟨_, _, ecs, [], rfl, h2, key _ _ _ h3, by simp⟩, fun b hb => List.mem_append_left _ hb⟩
section
variable {P : Program} {t : TypeId} {bytes : Nat} {ops : Array Oper} {rest : List Oper} {o : Oper} {a : Act} {Q : Exit → Act → World → Prop}
/-- 'append(own, v)', flat, the list's block before or behind one box -/
theorem wpList_append_fone2 (hgd : o.guard = none) (s x : Operand) (hE : Elem P t e T bytes) (hf : Flat T) {W0 X W W1 : World} {os : Array Obj} {d : Nat} {b : Obj} {B g cc hi n2 : Nat} {A : Option Addr} {n c : Nat} {xs : List α} (h : Fr2 (T.sl e) W0 hi n2 W [.slice A n c] xs) (hg : Gro ((gro X os d).alloc b) W)
    (hhi : hi = X.heap.size + os.size) (hn2 : n2 = X.heap.size + os.size + 1) (hlo : X.heap.size ≤ W0.heap.size) (hWX : W0.heap.size ≤ X.heap.size + os.size)
    {ec : List Value} {y : α} (hy : T.R W1 B ec y)
    (ho : o.op = .call { callee := .builtin .append, args := #[s, x], argTypes := #[t, t] }) (hs : a.eval s = .slice A n c) (hx : a.eval x = .slice (some ⟨g, 0, none⟩) 1 cc)
    (hcell : ∀ (j : Nat) (u : Value), ec[j]? = some u → W.cell? ⟨g, j, none⟩ = some u)
    {L : Nat} (hL : L = n + 1) (hb : L * bytes ≤ 140737488355328) (h63 : L ≤ 9223372036854775807)
    (hK : ∀ A' c'' os' os2 d2, os'.size = os.size → Fr2 (T.sl e) W0 hi n2 (gro ((gro X os' d).alloc b) os2 d2) [.slice A' L c''] (xs ++ [y]) → wpList P ops Q rest (a.put o.dst (.slice A' L c'')) (gro ((gro X os' d).alloc b) os2 d2)) : wpList P ops Q (o :: rest) a W := by
  have hs0 := hg.size
  rw [World.size_alloc, gro_size] at hs0
  obtain ⟨S, hO, hN, hS⟩ := h
  obtain ⟨hO', hsub⟩ := flat_own hf hO
  have hNd : (blockOf A).Nodup := by cases A <;> simp [blockOf]
  subst hhi hn2
  by_cases hcase : ∀ k ∈ blockOf A, W0.heap.size ≤ k ∧ k < X.heap.size + os.size
  · exact wpList_append_fone1 hgd s x hE hf (hi0 := X.heap.size + os.size) ⟨blockOf A, hO', hNd, hcase⟩ hg hlo (Nat.le_refl _) hWX hy ho hs hx hcell hL hb h63 hK
  · have hhigh : ∀ k ∈ blockOf A, ((gro X os d).alloc b).heap.size ≤ k := by
      intro k hk
      cases A with
      | none => simp [blockOf] at hk
      | some ad =>
        simp only [blockOf, List.mem_singleton, forall_eq] at hk hcase
        subst hk
        rcases hS ad.block (hsub _ (by simp [blockOf])) with h | h
        · exact absurd h hcase
        · rw [World.size_alloc, gro_size]; exact h
    refine wpList_append_fone (W0 := (gro X os d).alloc b) hgd s x hE hf (hi0 := W.heap.size) ⟨blockOf A, hO', hNd, fun k hk => ⟨hhigh k hk, (T.sl e).ltO hO' k hk⟩⟩ hg hy ho hs hx hcell hL hb h63 ?_
    intro A' c'' os2 d2 hF
    refine hK A' c'' os os2 d2 rfl ?_
    obtain ⟨S2, h1, h2, h3⟩ := hF
    exact ⟨S2, h1, h2, fun k hk => .inr (by have := h3 k hk; rw [World.size_alloc, gro_size] at this; exact this)⟩
theorem Fre.fr2 {α : Type} {T : Ty α} {w w1 : World} {hi n : Nat} {cs : List Value} {x : α} (h : Fre T w hi w1 cs x) : Fr2 T w hi n w1 cs x := by
  obtain ⟨S, h1, h2, h3⟩ := h
  exact ⟨S, h1, h2, fun b hb => .inl (h3 b hb)⟩
theorem Fr2.up {α : Type} {T : Ty α} {w w1 w2 : World} {hi n : Nat} {cs : List Value} {x : α} (h : Fr2 T w hi n w1 cs x) (hg : Gro w1 w2) : Fr2 T w hi n w2 cs x := by
  obtain ⟨S, h1, h2, h3⟩ := h
  exact ⟨S, T.groO h1 hg, h2, h3⟩
theorem Fr2.read {α : Type} {T : Ty α} {w w1 : World} {hi n : Nat} {cs : List Value} {x : α} (h : Fr2 T w hi n w1 cs x) : T.R w1 w1.heap.size cs x := by
  obtain ⟨S, h1, _, _⟩ := h
  exact T.read h1
end
end
end Go.Proofs.Ytbhobjepjaeffaa
