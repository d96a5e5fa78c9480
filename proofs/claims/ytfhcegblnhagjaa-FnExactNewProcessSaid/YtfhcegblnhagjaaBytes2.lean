/-
  BYTES, PART 2: 'b := []byte(s)', 'b = append(b, s...)', 'string(b)': a row of bytes of the call's own.
-/
import Derived.Test.YtfhcegblnhagjaaBytes
import Derived.Deep.AppendSrc
import Derived.Deep.MidRow
import Derived.Laws.IdiomStrings
set_option linter.unusedVariables false
set_option linter.unusedSimpArgs false
namespace Go.Proofs.Ytfhcegblnhagjaa
open Go.RowKit
def OwnB (lo : Nat) (W : World) (A : Option Addr) (c : Nat) (xs : List UInt8) : Prop := ∃ g, A = some ⟨g, 0, none⟩ ∧ lo ≤ g ∧ g < W.heap.size ∧ xs.length ≤ c ∧
  (∀ j, j < c → (W.cell? ⟨g, j, none⟩).isSome = true) ∧ (∀ j, j < c → W.frozen? ⟨g, j, none⟩ = false) ∧ ∀ (j : Nat) b, xs[j]? = some b → W.cell? ⟨g, j, none⟩ = some (.int .u8 (b.toNat : Int))
theorem OwnB.gro {lo : Nat} {W W' : World} {A : Option Addr} {c : Nat} {xs : List UInt8} (h : OwnB lo W A c xs) (hg : Gro W W') : OwnB lo W' A c xs := by
  obtain ⟨g, rfl, h1, h2, h3, h4, h5, h6⟩ := h
  have hc : ∀ j, W'.cell? ⟨g, j, none⟩ = W.cell? ⟨g, j, none⟩ := fun j => World.cell?_of_block (hg.block h2)
  have hf : ∀ j, W'.frozen? ⟨g, j, none⟩ = W.frozen? ⟨g, j, none⟩ := fun j => World.frozen?_of_block (hg.block h2)
  exact ⟨g, rfl, h1, Nat.lt_of_lt_of_le h2 hg.size, h3, fun j hj => by rw [hc]; exact h4 j hj, fun j hj => by rw [hf]; exact h5 j hj, fun j b hb => by rw [hc]; exact h6 j b hb⟩
theorem OwnB.read {lo : Nat} {W : World} {A : Option Addr} {c : Nat} {xs : List UInt8} {e : TypeId} (h : OwnB lo W A c xs) (hc : c ≤ 9223372036854775807) : (byteT.sl e).R W W.heap.size [.slice A xs.length c] xs := by
  obtain ⟨g, rfl, h1, h2, h3, h4, h5, h6⟩ := h
  refine ⟨_, c, rfl, h3, hc, (fun h => by cases h), fun _ => ⟨g, 0, rfl, h2, fun i x hx => ⟨_, rfl, fun j u hu => ?_⟩⟩⟩
  cases j with
  | zero =>
    simp at hu
    subst hu
    have := h6 i x hx
    rw [show 0 + i * byteT.size + 0 = i from by show 0 + i * 1 + 0 = i; omega]
    exact this
  | succ j => simp at hu
theorem ownB_of {lo : Nat} {W : World} {g c : Nat} {cur : Array Value} {e : TypeId} {fr : Nat × Nat} {xs : List UInt8} (hg : W.heap[g]? = some (.cells cur e fr)) (h1 : lo ≤ g) (hc : cur.size = c) (hf : fr.2 = 0 ∨ c ≤ fr.1) (hl : xs.length ≤ c) (hget : ∀ (j : Nat) b, xs[j]? = some b → cur[j]? = some (.int .u8 (b.toNat : Int))) :
    OwnB lo W (some ⟨g, 0, none⟩) c xs := by
  refine ⟨g, rfl, h1, (Array.getElem?_eq_some_iff.1 hg).1, hl, fun j hj => ?_, fun j hj => ?_, fun j b hb => ?_⟩
  · rw [cell_of_row W g j cur e fr hg, Array.getElem?_eq_getElem (by omega)]
    rfl
  · obtain ⟨f1, f2⟩ := fr
    simp only [World.frozen?, hg]
    simp only [Bool.and_eq_false_iff, decide_eq_false_iff_not]
    simp only at hf
    omega
  · rw [cell_of_row W g j cur e fr hg]
    exact hget j b hb
theorem setCells_block (g : Nat) : ∀ (vs : List Value) (o : Nat) (w : World), (w.setCells g o vs).heap.size = w.heap.size ∧ (w.setCells g o vs).tape = w.tape ∧ (w.setCells g o vs).os = w.os ∧ (w.setCells g o vs).output = w.output ∧ ∀ k, k ≠ g → (w.setCells g o vs).heap[k]? = w.heap[k]?
  | [], _, _ => ⟨rfl, rfl, rfl, rfl, fun _ _ => rfl⟩
  | v :: r, o, w => by
    obtain ⟨h1, h2, h3, h4, h5⟩ := setCells_block g r (o + 1) (w.setCell ⟨g, o, none⟩ v)
    rw [World.setCells]
    exact ⟨by rw [h1]; simp [World.setCell], by rw [h2]; rfl, by rw [h3]; rfl, by rw [h4]; rfl, fun k hk => by rw [h5 k hk]; exact Below.heap_setCell w _ v k hk⟩
/-- '[]byte(s)' -/
theorem run_ownB (W : World) (s : ByteArray) : ∃ c os d, (convert 9 152 (.string s)).run Try.prog W = .ok (.slice (some ⟨W.heap.size, 0, none⟩) s.size c) (gro W os d) ∧ OwnB W.heap.size (gro W os d) (some ⟨W.heap.size, 0, none⟩) c s.data.toList ∧ (s.size ≤ 140737488355328 → c ≤ 9223372036854775807) := by
  have h := run_bytes_of_string (P := Try.prog) W 9 152 5 s Try.underlying9 Try.underlying152 Try.underlying5
  have hge := grownCap_ge W s.size 0 5
  have hle := grownCap_le_maxLen W s.size 0 5
  generalize hc : grownCap W s.size 0 5 = c at h hge hle
  generalize hcur : bytesRow s c = cur at h
  have hsz : cur.size = c := by
    rw [← hcur]
    unfold bytesRow
    rw [Array.size_append, Array.size_map, Array.size_replicate]
    have : s.data.size = s.size := rfl
    omega
  have hget : ∀ (j : Nat) b, s.data.toList[j]? = some b → cur[j]? = some (.int .u8 (b.toNat : Int)) := by
    intro j b hb
    have hj : j < s.data.size := by
      have := (List.getElem?_eq_some_iff.1 hb).1
      simpa using this
    rw [← hcur]
    unfold bytesRow
    rw [Array.getElem?_append_left (by simpa using hj), Array.getElem?_map]
    rw [← Array.getElem?_toList, hb]
    rfl
  have hW : W.drew.alloc (.cells cur 5 (cur.size, cur.size + 1)) = gro W #[.cells cur 5 (cur.size, cur.size + 1)] (W.drawn + 1) := by
    unfold gro World.alloc World.drew
    simp
  rw [hW] at h
  refine ⟨c, _, _, h, ?_, fun h => ?_⟩
  · rw [← hW]
    exact ownB_of (heap_alloc_new W.drew _) (Nat.le_refl _) hsz (.inr (by simp only; omega)) (by rw [Array.length_toList]; exact hge) hget
  · have := hle (by unfold maxLen; omega)
    unfold maxLen at this
    omega
theorem byteCells_get {s : ByteArray} {j : Nat} {b : UInt8} (h : s.data.toList[j]? = some b) : (byteCells s)[j]? = some (.int .u8 (b.toNat : Int)) := by
  unfold byteCells
  rw [List.getElem?_map, h]
  rfl
/-- 'append(b, s...)' -/
theorem run_append_str {W0 W : World} {ty : TypeId} {A : Option Addr} {n c : Nat} {xs : List UInt8} (hn : n = xs.length) (h : OwnB W0.heap.size W A c xs) (hg : Gro W0 W) (s : ByteArray) (hb : n + s.size ≤ 140737488355328) :
    ∃ A' c' W', (Builtin.append_ #[152, 9] ty #[.slice A n c, .string s]).run Try.prog W = .ok (.slice A' (n + s.size) c') W' ∧ Gro W0 W' ∧ OwnB W0.heap.size W' A' c' (xs ++ s.data.toList) ∧ c' ≤ max c 9223372036854775807 := by
  subst hn
  obtain ⟨g, rfl, h1, h2, h3, h4, h5, h6⟩ := h
  obtain ⟨i, z, hi, hz, hz1, hz2, hz3⟩ := elByte.info
  have hs : ∀ w, Src Try.prog i.size 9 (.string s) s.size (byteCells s) w := fun w => by
    rw [hz1]; exact Src.ofString w Try.underlying9 s
  have hi1 : i.size = 1 := hz1
  by_cases hroom : xs.length + s.size ≤ c
  · have hr := run_append_room_src (P := Try.prog) W 152 9 ty 5 i Try.underlying152 hi g 0 xs.length c (.string s) s.size (byteCells s) (hs W) hroom
      (fun j hj => by rw [byteCells_length] at hj; rw [hi1]; exact h4 _ (by omega)) (fun j hj => by rw [byteCells_length] at hj; rw [hi1]; exact h5 _ (by omega))
    obtain ⟨b1, b2, b3, b4, b5⟩ := setCells_block g (byteCells s) (0 + xs.length * i.size) W
    have hgb : W.grownBy (W.setCells g (0 + xs.length * i.size) (byteCells s)) (some g) := ⟨b3, b2, b4, by omega, fun k _ hk => b5 k (fun e => hk (by rw [e]))⟩
    refine ⟨_, _, _, hr, Gro.grown hg hgb (fun k hk => by cases hk; exact h1), ⟨g, rfl, h1, by omega, ?_, ?_, ?_, ?_⟩, by omega⟩
    · rw [List.length_append, Array.length_toList]; exact hroom
    · intro j hj
      exact World.isSome_setCells g _ _ W _ (h4 j hj)
    · intro j hj
      rw [World.frozen?_setCells]
      exact h5 j hj
    · intro j b hb'
      rw [hi1]
      rw [List.getElem?_append] at hb'
      split at hb'
      · rename_i hj
        rw [World.cell?_setCells_out g _ _ _ _ (fun _ _ => .inl (by show j < _; omega))]
        exact h6 j b hb'
      · rename_i hj
        have hl : j - xs.length < (byteCells s).length := by
          have := (List.getElem?_eq_some_iff.1 hb').1
          rw [byteCells_length]
          simpa using this
        have := World.cell?_setCells_in g (byteCells s) (0 + xs.length * 1) W (fun k hk => by rw [byteCells_length] at hk; exact h4 _ (by omega)) (j - xs.length) hl
        rw [show 0 + xs.length * 1 + (j - xs.length) = j from by omega] at this
        rw [this, ← List.getElem?_eq_getElem hl]
        exact byteCells_get hb'
  · have hr := run_append_grow_src (P := Try.prog) W 152 9 ty 5 i z Try.underlying152 hi hz (some ⟨g, 0, none⟩) xs.length c (xs.map fun b => Value.int .u8 (b.toNat : Int))
      (by
        refine run_firstCells_some W.drew i.size xs.length _ xs.length c _ (by rw [hi1]; simp) (fun j u hu => ?_)
        rw [List.getElem?_map] at hu
        cases hx : xs[j]? with
        | none => rw [hx] at hu; simp at hu
        | some b =>
          rw [hx] at hu
          simp at hu
          subst hu
          have := h6 j b hx
          show W.cell? _ = _
          rw [Addr.add_lit, Nat.zero_add]
          exact this) (.string s) s.size (byteCells s) (hs W) (by omega) (by omega) (growslice_fits (by omega) (by rw [hz2]; omega))
    have hge := grownCap_ge W (xs.length + s.size) c 5
    have hle := grownCap_le_maxLen W (xs.length + s.size) c 5
    generalize grownCap W (xs.length + s.size) c 5 = c' at hr hge hle
    have hle' := hle (by unfold maxLen; omega)
    unfold maxLen at hle'
    generalize hcur : ((List.map (fun b => Value.int .u8 (b.toNat : Int)) xs ++ byteCells s).toArray ++ Builtin.zeroCells z.cells (c' - (xs.length + s.size))) = cur at hr
    have hsz : cur.size = c' := by
      rw [← hcur, Array.size_append, size_zeroCells, hz3]
      simp only [List.size_toArray, List.length_append, List.length_map, byteCells_length]
      show xs.length + s.size + (c' - (xs.length + s.size)) * 1 = c'
      omega
    have hget : ∀ (j : Nat) b, (xs ++ s.data.toList)[j]? = some b → cur[j]? = some (.int .u8 (b.toNat : Int)) := by
      intro j b hb'
      have hm : (List.map (fun b => Value.int .u8 (b.toNat : Int)) xs ++ byteCells s) = (xs ++ s.data.toList).map fun b => Value.int .u8 (b.toNat : Int) := by
        unfold byteCells; rw [List.map_append]
      have hj := (List.getElem?_eq_some_iff.1 hb').1
      rw [← hcur, hm, Array.getElem?_append_left (by simpa using hj)]
      simp only [List.getElem?_toArray, List.getElem?_map, hb']
      rfl
    refine ⟨_, _, _, hr, (hg.trans ⟨_, _, gro_of_drew⟩).trans ⟨_, _, gro_of_alloc _⟩, ?_, by omega⟩
    exact ownB_of (heap_alloc_new W.drew _) hg.size hsz (.inl rfl) (by rw [List.length_append, Array.length_toList]; exact hge) hget
section
variable {ops : Array Oper} {rest : List Oper} {o : Oper} {a : Act} {Q : Exit → Act → World → Prop} {K : Act → World → Prop}
theorem wp_of_run_append2 {P : Program} {t t2 : TypeId} {A : Option Addr} {n c : Nat} {v2 v' : Value} {W W' : World} (s x : Operand) (ho : o.op = .call { callee := .builtin .append, args := #[s, x], argTypes := #[t, t2] }) (hs : a.eval s = .slice A n c) (hx : a.eval x = v2)
    (hrun : (Builtin.append_ #[t, t2] o.type #[.slice A n c, v2]).run P W = .ok v' W') (h : K (a.put o.dst v') W') : o.wp P a W K Q := by
  unfold Oper.wp execOp
  simp only [ho, resolve, invoke, builtin, Sem.run_bind, Sem.run_pure, Result.andThen_ok, List.map_toArray, List.map_cons, List.map_nil, hs, hx, hrun]
  exact h
theorem wpList_append_str (hgd : o.guard = none) (s x : Operand) {W0 W : World} {A : Option Addr} {n c : Nat} {xs : List UInt8} (hn : n = xs.length) (h : OwnB W0.heap.size W A c xs) (hg : Gro W0 W) {t : ByteArray}
    (ho : o.op = .call { callee := .builtin .append, args := #[s, x], argTypes := #[152, 9] }) (hs : a.eval s = .slice A n c) (hx : a.eval x = .string t) (hb : n + t.size ≤ 140737488355328) (hc : c ≤ 9223372036854775807)
    (hK : ∀ A' c' os d, OwnB W0.heap.size (gro W0 os d) A' c' (xs ++ t.data.toList) → c' ≤ 9223372036854775807 → wpList Try.prog ops Q rest (a.put o.dst (.slice A' (n + t.size) c')) (gro W0 os d)) : wpList Try.prog ops Q (o :: rest) a W :=
  wpList_plain hgd fun K hKK => by
    obtain ⟨A', c', W', hr, ⟨os, d, rfl⟩, ho', hc'⟩ := run_append_str (ty := o.type) hn h hg t hb
    exact wp_of_run_append2 s x ho hs hx hr (hKK _ _ (hK _ _ _ _ ho' (by omega)))
end
end Go.Proofs.Ytfhcegblnhagjaa
