/-
  OWN: an owned datum with the blocks that it holds, in worlds that are known by what they hold alone: any number of lists of the call's own that grow side by side.
-/
import Derived.Test.YtbhobjepjaeffaaAppend2
import Derived.Test.YtbhobjepjaeffaaRowsPut
set_option linter.unusedVariables false
set_option linter.unusedSimpArgs false
namespace Go.Proofs.Ytbhobjepjaeffaa
open Go.RowKit
/-- owned, by the blocks of S, none twice -/
def Has {α : Type} (T : Ty α) (W : World) (cs : List Value) (x : α) (S : List Nat) : Prop := T.O W cs x S ∧ S.Nodup
theorem Has.lt {α : Type} {T : Ty α} {W : World} {cs : List Value} {x : α} {S : List Nat} (h : Has T W cs x S) : ∀ b ∈ S, b < W.heap.size := T.ltO h.1
theorem Has.read {α : Type} {T : Ty α} {W : World} {cs : List Value} {x : α} {S : List Nat} (h : Has T W cs x S) : T.R W W.heap.size cs x := T.read h.1
theorem Has.keep {α : Type} {T : Ty α} {W W' : World} {cs : List Value} {x : α} {S L : List Nat} (h : Has T W cs x S) (ho : OnlyS L W W') (hd : ∀ b ∈ S, b ∉ L) : Has T W' cs x S :=
  ⟨T.keepO h.1 (fun k hk => ho.block k (h.lt k hk) (hd k hk)), h.2⟩
theorem Has.gro {α : Type} {T : Ty α} {W W' : World} {cs : List Value} {x : α} {S : List Nat} (h : Has T W cs x S) (hg : Gro W W') : Has T W' cs x S := ⟨T.groO h.1 hg, h.2⟩
theorem Has.fresh {α : Type} {T : Ty α} {w W : World} {cs : List Value} {x : α} {S : List Nat} (h : Has T W cs x S) (hl : ∀ b ∈ S, w.heap.size ≤ b) : Fresh T w W cs x := ⟨S, h.1, h.2, hl⟩
theorem Fresh.has {α : Type} {T : Ty α} {w W : World} {cs : List Value} {x : α} (h : Fresh T w W cs x) : ∃ S, Has T W cs x S ∧ ∀ b ∈ S, w.heap.size ≤ b := by
  obtain ⟨S, h1, h2, h3⟩ := h
  exact ⟨S, ⟨h1, h2⟩, h3⟩
theorem Has.same {α : Type} {T : Ty α} {W W' : World} {cs : List Value} {x : α} {S : List Nat} {n : Nat} (h : Has T W cs x S) (hl : ∀ b ∈ S, n ≤ b) (hs : Same n W.heap.size W W') : Has T W' cs x S :=
  ⟨T.keepO h.1 (fun k hk => hs k (hl k hk) (h.lt k hk)), h.2⟩
theorem Has.prod {α β : Type} {T : Ty α} {U : Ty β} {W : World} {c1 c2 : List Value} {x : α × β} {S : List Nat} (hl : c1.length = T.size) (h : Has (T.prod U) W (c1 ++ c2) x S) : ∃ S1 S2, Has T W c1 x.1 S1 ∧ Has U W c2 x.2 S2 ∧ (∀ b ∈ S1, b ∈ S) ∧ (∀ b ∈ S2, b ∈ S) ∧ ∀ b ∈ S1, b ∉ S2 := by
  obtain ⟨⟨d1, d2, S1, S2, he, rfl, h1, h2⟩, hN⟩ := h
  have hl2 := T.lenO h1
  have h3 : c1 = d1 ∧ c2 = d2 := List.append_inj he (by omega)
  obtain ⟨rfl, rfl⟩ := h3
  obtain ⟨n1, n2, n3, _⟩ := nd2 hN
  exact ⟨S1, S2, ⟨h1, n1⟩, ⟨h2, n2⟩, fun b hb => List.mem_append_left _ hb, fun b hb => List.mem_append_right _ hb, n3⟩
theorem Has.nil {α : Type} (T : Ty α) (e : TypeId) (W : World) : Has (T.sl e) W [.slice none 0 0] [] [] := by
  obtain ⟨S, h1, h2, h3⟩ := fresh_nil (T := T) (e := e) W W
  refine ⟨?_, by simp⟩
  obtain ⟨A', c', ecs, S', h4, h5, h6, h7⟩ := h1
  injection h4 with h4 _
  injection h4 with hA hn hc
  subst hA hc
  obtain ⟨h8, h9⟩ := h6
  exact ⟨none, 0, ecs, [], rfl, h5, ⟨h8, rfl⟩, rfl⟩
theorem Has.emp {α : Type} (T : Ty α) {e : TypeId} {W : World} {g : Nat} (hg : W.heap[g]? = some (.cells #[] e (0, 0))) : Has (T.sl e) W [.slice (some ⟨g, 0, none⟩) 0 0] [] [g] :=
  ⟨own_made (T := T) (xs := []) hg ⟨rfl, rfl⟩ (by simp), by simp⟩
theorem Has.only_lo {α : Type} {T : Ty α} {W W' : World} {cs : List Value} {x : α} {S L : List Nat} {k : Nat} (h : Has T W cs x S) (ho : OnlyS L W W') (hl : ∀ b ∈ L, b ≤ k) (hs : ∀ b ∈ S, k < b) : Has T W' cs x S :=
  h.keep ho (fun b hb hm => by have := hl b hm; have := hs b hb; omega)
section
variable {α : Type} {T : Ty α} {e : TypeId} {P : Program} {t ty : TypeId} {bytes : Nat}
theorem run_append_set (hE : Elem P t e T bytes) {W : World} {S : List Nat} {A : Option Addr} {n c : Nat} {xs : List α} (h : Has (T.sl e) W [.slice A n c] xs S)
    {ad : Addr} {m c' : Nat} {ys : List α} {news : List Value} {Sy : List Nat} (hr : Rows T W news ys Sy) (hm : m = ys.length) (hcell : ∀ j u, news[j]? = some u → W.cell? (ad.add j) = some u)
    (hSy : Sy.Nodup) (hd : ∀ b ∈ S, b ∉ Sy) {L : Nat} (hL : L = n + m) (hb : L * bytes ≤ 140737488355328) (h63 : L ≤ 9223372036854775807) :
    ∃ A' c'' W' S', (Builtin.append_ #[t, t] ty #[.slice A n c, .slice (some ad) m c']).run P W = .ok (.slice A' L c'') W' ∧ OnlyS S W W' ∧ Has (T.sl e) W' [.slice A' L c''] (xs ++ ys) S' ∧ ∀ b ∈ S', b ∈ S ∨ b ∈ Sy ∨ W.heap.size ≤ b := by
  subst hL
  obtain ⟨hO, hN⟩ := h
  obtain ⟨A1, c1, ecs, S', hv, how, hrow, rfl⟩ := hO
  injection hv with hv _
  injection hv with hA hn hc
  subst hA hc
  have hn' : n = xs.length := hn
  obtain ⟨i, z, hi, hz, hsize, hby, hzs⟩ := hE.info
  have hlen : news.length = m * T.size := by rw [hr.len, hm]
  obtain ⟨v', W', hrun, hown, hgrown, _, hat⟩ := run_append_own_at (P := P) W 0 t ty e i z T.size bytes hE.ht hi hz hsize hby hzs hE.pos (.slice A xs.length c) xs.length ecs how ad m c' news hlen hcell hr.one
    (by rw [← hn']; simpa [maxLen] using h63) (by rw [← hn']; exact hb) (Nat.zero_le _)
  subst hn'
  have hkeep : ∀ k, k < W.heap.size → (∀ b ∈ blockOf A, k ≠ b) → W'.heap[k]? = W.heap[k]? := fun k hk hne => hgrown.block k hk (by
    cases A with
    | none => simp [Value.ownBlock]
    | some a => simpa [Value.ownBlock, blockOf] using hne)
  rw [List.nodup_append] at hN
  obtain ⟨hN1, hN2, hN3⟩ := hN
  have hrow' : Rows T W' ecs xs S' := hrow.keep (fun k hk => hkeep k (hrow.lt k hk) (fun b hb => (hN3 b hb k hk).symm))
  have hr' : Rows T W' news ys Sy := hr.keep (fun k hk => hkeep k (hr.lt k hk) (fun b hb heq => hd b (List.mem_append_left _ hb) (heq ▸ hk)))
  have hshape : ∃ A' c'', v' = .slice A' (xs.length + m) c'' ∧ ∀ b ∈ blockOf A', b ∈ blockOf A ∨ b = W.heap.size := by
    rcases hown.2 with ⟨rfl, h0⟩ | ⟨g, cap, cur, rfl, _⟩
    · exact ⟨none, 0, by rw [h0], by simp [blockOf]⟩
    · refine ⟨_, cap, rfl, fun b hb => ?_⟩
      simp [blockOf] at hb
      subst hb
      rcases hat with h | h
      · left
        cases A with
        | none => simp [Value.ownBlock] at h
        | some a => simp [Value.ownBlock] at h; simp [blockOf, h]
      · right
        simpa [Value.ownBlock] using h
  obtain ⟨A', c'', rfl, hA'⟩ := hshape
  refine ⟨A', c'', W', blockOf A' ++ (S' ++ Sy), hrun, ⟨hgrown.os, hgrown.tape, hgrown.output, hgrown.size, fun k hk hn => hkeep k hk (fun b hb heq => hn (List.mem_append_left _ (heq ▸ hb)))⟩,
    ⟨⟨A', c'', ecs ++ news, S' ++ Sy, by rw [List.length_append, hm], by rw [List.length_append, ← hm]; exact hown, hrow'.app hr', rfl⟩, ?_⟩, ?_⟩
  · rw [List.nodup_append]
    refine ⟨by cases A' <;> simp [blockOf], List.nodup_append.2 ⟨hN2, hSy, fun a ha b hb heq => hd a (List.mem_append_right _ ha) (heq ▸ hb)⟩, fun a ha b hb heq => ?_⟩
    subst heq
    rcases hA' a ha with h | h
    · rcases List.mem_append.1 hb with hb | hb
      · exact hN3 a h a hb rfl
      · exact hd a (List.mem_append_left _ h) hb
    · subst h
      rcases List.mem_append.1 hb with hb | hb
      · exact absurd (hrow.lt _ hb) (Nat.lt_irrefl _)
      · exact absurd (hr.lt _ hb) (Nat.lt_irrefl _)
  · intro b hb
    rcases List.mem_append.1 hb with hb | hb
    · rcases hA' b hb with h | h
      · exact .inl (List.mem_append_left _ h)
      · exact .inr (.inr (by omega))
    · rcases List.mem_append.1 hb with hb | hb
      · exact .inl (List.mem_append_right _ hb)
      · exact .inr (.inl hb)
theorem run_append_nil_has (hE : Elem P t e T bytes) {W : World} {S : List Nat} {A : Option Addr} {n c : Nat} {xs : List α} (h : Has (T.sl e) W [.slice A n c] xs S) (c' : Nat) :
    (Builtin.append_ #[t, t] ty #[.slice A n c, .slice none 0 c']).run P W = .ok (.slice A n c) W :=
  run_append_fresh_nil (W0 := { W with heap := #[] }) hE ⟨S, h.1, h.2, fun b _ => Nat.zero_le _⟩ c'
end
section
variable {α : Type} {T : Ty α} {e : TypeId} {P : Program} {t : TypeId} {bytes : Nat} {ops : Array Oper} {rest : List Oper} {o : Oper} {a : Act} {Q : Exit → Act → World → Prop} {K : Act → World → Prop}
/-- 'append(own, v)', v owned by its own blocks; a step of a region -/
theorem step_append_has {E : Prop} (hgd : o.guard = none) (s x : Operand) (hE : Elem P t e T bytes) {W : World} {g cc : Nat} {S Sy : List Nat} {A : Option Addr} {n c : Nat} {xs : List α} (h : Has (T.sl e) W [.slice A n c] xs S)
    {ec : List Value} {y : α} (hy : Has T W ec y Sy) (hd : ∀ b ∈ S, b ∉ Sy)
    (ho : o.op = .call { callee := .builtin .append, args := #[s, x], argTypes := #[t, t] }) (hs : a.eval s = .slice A n c) (hx : a.eval x = .slice (some ⟨g, 0, none⟩) 1 cc)
    (hcell : ∀ (j : Nat) (u : Value), ec[j]? = some u → W.cell? ⟨g, j, none⟩ = some u)
    {L : Nat} (hL : L = n + 1) (hb : L * bytes ≤ 140737488355328) (h63 : L ≤ 9223372036854775807)
    (hK : ∀ A' c'' W' S', OnlyS S W W' → Has (T.sl e) W' [.slice A' L c''] (xs ++ [y]) S' → (∀ b ∈ S', b ∈ S ∨ b ∈ Sy ∨ W.heap.size ≤ b) → K (a.put o.dst (.slice A' L c'')) W') : if Region.wanted o (yielded ops a.tmps) = true then Oper.wp P o a W K Q else E := by
  have hw : Region.wanted o (yielded ops a.tmps) = true := by simp [Region.wanted, hgd]
  rw [if_pos hw]
  obtain ⟨A', c'', W', S', hrun, hon, hF, hS'⟩ := run_append_set (P := P) (ty := o.type) hE h (ad := ⟨g, 0, none⟩) (m := 1) (c' := cc) (ys := [y]) (news := ec) (Sy := Sy) ⟨ec, [], Sy, [], by simp, by simp, hy.1, rfl, rfl⟩ rfl (fun j u hu => by rw [Addr.add_lit, Nat.zero_add]; exact hcell j u hu) hy.2 hd hL hb h63
  exact wp_of_run_append s x ho hs hx hrun (hK A' c'' W' S' hon hF hS')
theorem wpList_append_has (hgd : o.guard = none) (s x : Operand) (hE : Elem P t e T bytes) {W : World} {g cc : Nat} {S Sy : List Nat} {A : Option Addr} {n c : Nat} {xs : List α} (h : Has (T.sl e) W [.slice A n c] xs S)
    {ec : List Value} {y : α} (hy : Has T W ec y Sy) (hd : ∀ b ∈ S, b ∉ Sy)
    (ho : o.op = .call { callee := .builtin .append, args := #[s, x], argTypes := #[t, t] }) (hs : a.eval s = .slice A n c) (hx : a.eval x = .slice (some ⟨g, 0, none⟩) 1 cc)
    (hcell : ∀ (j : Nat) (u : Value), ec[j]? = some u → W.cell? ⟨g, j, none⟩ = some u)
    {L : Nat} (hL : L = n + 1) (hb : L * bytes ≤ 140737488355328) (h63 : L ≤ 9223372036854775807)
    (hK : ∀ A' c'' W' S', OnlyS S W W' → Has (T.sl e) W' [.slice A' L c''] (xs ++ [y]) S' → (∀ b ∈ S', b ∈ S ∨ b ∈ Sy ∨ W.heap.size ≤ b) → wpList P ops Q rest (a.put o.dst (.slice A' L c'')) W') : wpList P ops Q (o :: rest) a W :=
  wpList_plain hgd fun K hKK => by
    obtain ⟨A', c'', W', S', hrun, hon, hF, hS'⟩ := run_append_set (P := P) (ty := o.type) hE h (ad := ⟨g, 0, none⟩) (m := 1) (c' := cc) (ys := [y]) (news := ec) (Sy := Sy) ⟨ec, [], Sy, [], by simp, by simp, hy.1, rfl, rfl⟩ rfl (fun j u hu => by rw [Addr.add_lit, Nat.zero_add]; exact hcell j u hu) hy.2 hd hL hb h63
    exact wp_of_run_append s x ho hs hx hrun (hKK _ _ (hK A' c'' W' S' hon hF hS'))
/-- .. flat -/
theorem step_append_hasf {E : Prop} (hgd : o.guard = none) (s x : Operand) (hE : Elem P t e T bytes) (hf : Flat T) {W W1 : World} {B g cc : Nat} {S : List Nat} {A : Option Addr} {n c : Nat} {xs : List α} (h : Has (T.sl e) W [.slice A n c] xs S)
    {ec : List Value} {y : α} (hy : T.R W1 B ec y)
    (ho : o.op = .call { callee := .builtin .append, args := #[s, x], argTypes := #[t, t] }) (hs : a.eval s = .slice A n c) (hx : a.eval x = .slice (some ⟨g, 0, none⟩) 1 cc)
    (hcell : ∀ (j : Nat) (u : Value), ec[j]? = some u → W.cell? ⟨g, j, none⟩ = some u)
    {L : Nat} (hL : L = n + 1) (hb : L * bytes ≤ 140737488355328) (h63 : L ≤ 9223372036854775807)
    (hK : ∀ A' c'' W' S', OnlyS S W W' → Has (T.sl e) W' [.slice A' L c''] (xs ++ [y]) S' → (∀ b ∈ S', b ∈ S ∨ W.heap.size ≤ b) → K (a.put o.dst (.slice A' L c'')) W') : if Region.wanted o (yielded ops a.tmps) = true then Oper.wp P o a W K Q else E :=
  step_append_has hgd s x hE h (Sy := []) ⟨hf hy W, by simp⟩ (by simp) ho hs hx hcell hL hb h63 (fun A' c'' W' S' h1 h2 h3 => hK A' c'' W' S' h1 h2 (fun b hb => by have := h3 b hb; simpa using this))
theorem wpList_append_hasf (hgd : o.guard = none) (s x : Operand) (hE : Elem P t e T bytes) (hf : Flat T) {W W1 : World} {B g cc : Nat} {S : List Nat} {A : Option Addr} {n c : Nat} {xs : List α} (h : Has (T.sl e) W [.slice A n c] xs S)
    {ec : List Value} {y : α} (hy : T.R W1 B ec y)
    (ho : o.op = .call { callee := .builtin .append, args := #[s, x], argTypes := #[t, t] }) (hs : a.eval s = .slice A n c) (hx : a.eval x = .slice (some ⟨g, 0, none⟩) 1 cc)
    (hcell : ∀ (j : Nat) (u : Value), ec[j]? = some u → W.cell? ⟨g, j, none⟩ = some u)
    {L : Nat} (hL : L = n + 1) (hb : L * bytes ≤ 140737488355328) (h63 : L ≤ 9223372036854775807)
    (hK : ∀ A' c'' W' S', OnlyS S W W' → Has (T.sl e) W' [.slice A' L c''] (xs ++ [y]) S' → (∀ b ∈ S', b ∈ S ∨ W.heap.size ≤ b) → wpList P ops Q rest (a.put o.dst (.slice A' L c'')) W') : wpList P ops Q (o :: rest) a W :=
  wpList_append_has hgd s x hE h (Sy := []) ⟨hf hy W, by simp⟩ (by simp) ho hs hx hcell hL hb h63 (fun A' c'' W' S' h1 h2 h3 => hK A' c'' W' S' h1 h2 (fun b hb => by have := h3 b hb; simpa using this))
/-- 'append(own, list...)', flat -/
theorem run_append_hasl (hE : Elem P t e T bytes) (hf : Flat T) {ty : TypeId} {W : World} {S : List Nat} {A : Option Addr} {n c : Nat} {xs : List α} (h : Has (T.sl e) W [.slice A n c] xs S)
    {B : Nat} {e' : TypeId} {A2 : Option Addr} {m c2 : Nat} {ys : List α} (hy : (T.sl e').R W B [.slice A2 m c2] ys)
    {L : Nat} (hL : L = n + m) (hb : L * bytes ≤ 140737488355328) (h63 : L ≤ 9223372036854775807) :
    ∃ A' c'' W' S', (Builtin.append_ #[t, t] ty #[.slice A n c, .slice A2 m c2]).run P W = .ok (.slice A' L c'') W' ∧ OnlyS S W W' ∧ Has (T.sl e) W' [.slice A' L c''] (xs ++ ys) S' ∧ ∀ b ∈ S', b ∈ S ∨ W.heap.size ≤ b := by
  obtain ⟨A3, c3, hv, h1, h2, h3, h4⟩ := hy
  injection hv with hv _
  injection hv with hA hn hc
  subst hA hn hc
  rcases Nat.eq_zero_or_pos ys.length with h0 | h0
  · have hys : ys = [] := List.eq_nil_of_length_eq_zero h0
    subst hys
    subst hL
    cases A2 with
    | none => exact ⟨A, c, W, S, run_append_nil_has hE h _, OnlyS.refl _ _, by simpa using h, fun b hb => .inl hb⟩
    | some ad =>
      obtain ⟨A', c'', W', S', k1, k2, k3, k4⟩ := run_append_set (P := P) (ty := ty) hE h (ad := ad) (m := 0) (c' := c2) (news := []) (ys := []) (Sy := []) ⟨rfl, rfl⟩ rfl (fun j u hu => by simp at hu) (by simp) (by simp) rfl hb h63
      exact ⟨A', c'', W', S', k1, k2, k3, fun b hb => by have := k4 b hb; simpa using this⟩
  · obtain ⟨g, off, rfl, hgB, h5⟩ := h4 h0
    obtain ⟨cs, hr, hl, hc⟩ := rows_of_flat (w' := W) hf (g := g) (off := off) ys 0 (fun i x hx => by
      obtain ⟨ec, hR, hcc⟩ := h5 i x hx
      exact ⟨ec, hR, fun j u hu => by rw [Nat.zero_add]; exact hcc j u hu⟩)
    obtain ⟨A', c'', W', S', k1, k2, k3, k4⟩ := run_append_set (P := P) (ty := ty) hE h (ad := ⟨g, off, none⟩) hr rfl (fun j u hu => by rw [Addr.add_lit]; simpa using hc j u hu) (by simp) (by simp) hL hb h63
    exact ⟨A', c'', W', S', k1, k2, k3, fun b hb => by have := k4 b hb; simpa using this⟩
theorem step_append_hasl {E : Prop} (hgd : o.guard = none) (s x : Operand) (hE : Elem P t e T bytes) (hf : Flat T) {W : World} {S : List Nat} {A : Option Addr} {n c : Nat} {xs : List α} (h : Has (T.sl e) W [.slice A n c] xs S)
    {B : Nat} {e' : TypeId} {A2 : Option Addr} {m c2 : Nat} {ys : List α} (hy : (T.sl e').R W B [.slice A2 m c2] ys)
    (ho : o.op = .call { callee := .builtin .append, args := #[s, x], argTypes := #[t, t] }) (hs : a.eval s = .slice A n c) (hx : a.eval x = .slice A2 m c2)
    {L : Nat} (hL : L = n + m) (hb : L * bytes ≤ 140737488355328) (h63 : L ≤ 9223372036854775807)
    (hK : ∀ A' c'' W' S', OnlyS S W W' → Has (T.sl e) W' [.slice A' L c''] (xs ++ ys) S' → (∀ b ∈ S', b ∈ S ∨ W.heap.size ≤ b) → K (a.put o.dst (.slice A' L c'')) W') : if Region.wanted o (yielded ops a.tmps) = true then Oper.wp P o a W K Q else E := by
  have hw : Region.wanted o (yielded ops a.tmps) = true := by simp [Region.wanted, hgd]
  rw [if_pos hw]
  obtain ⟨A', c'', W', S', hrun, hon, hF, hS'⟩ := run_append_hasl (P := P) (ty := o.type) hE hf h hy hL hb h63
  exact wp_of_run_append s x ho hs hx hrun (hK A' c'' W' S' hon hF hS')
theorem wpList_append_hasl (hgd : o.guard = none) (s x : Operand) (hE : Elem P t e T bytes) (hf : Flat T) {W : World} {S : List Nat} {A : Option Addr} {n c : Nat} {xs : List α} (h : Has (T.sl e) W [.slice A n c] xs S)
    {B : Nat} {e' : TypeId} {A2 : Option Addr} {m c2 : Nat} {ys : List α} (hy : (T.sl e').R W B [.slice A2 m c2] ys)
    (ho : o.op = .call { callee := .builtin .append, args := #[s, x], argTypes := #[t, t] }) (hs : a.eval s = .slice A n c) (hx : a.eval x = .slice A2 m c2)
    {L : Nat} (hL : L = n + m) (hb : L * bytes ≤ 140737488355328) (h63 : L ≤ 9223372036854775807)
    (hK : ∀ A' c'' W' S', OnlyS S W W' → Has (T.sl e) W' [.slice A' L c''] (xs ++ ys) S' → (∀ b ∈ S', b ∈ S ∨ W.heap.size ≤ b) → wpList P ops Q rest (a.put o.dst (.slice A' L c'')) W') : wpList P ops Q (o :: rest) a W :=
  wpList_plain hgd fun K hKK => by
    obtain ⟨A', c'', W', S', hrun, hon, hF, hS'⟩ := run_append_hasl (P := P) (ty := o.type) hE hf h hy hL hb h63
    exact wp_of_run_append s x ho hs hx hrun (hKK _ _ (hK A' c'' W' S' hon hF hS'))
end
theorem box1 {W : World} {g : Nat} {a : Value} {e : TypeId} (h : W.heap[g]? = some (.cells #[a] e (0, 0))) : W.cell? ⟨g, 0, none⟩ = some a ∧ W.frozen? ⟨g, 0, none⟩ = false := by
  refine ⟨?_, by simp [World.frozen?, h]⟩
  rw [cell_of_row W g _ _ _ (0, 0) h]
  rfl
theorem set1 {W : World} {g : Nat} {p : Value} {e : TypeId} (h : W.heap[g]? = some (.cells #[p] e (0, 0))) (a : Value) : (W.setCell ⟨g, 0, none⟩ a).heap[g]? = some (.cells #[a] e (0, 0)) ∧ OnlyS [g] W (W.setCell ⟨g, 0, none⟩ a) :=
  ⟨heap_setCell_at h 0 a, (OnlyS.refl _ _).setCell (p := ⟨g, 0, none⟩) (by simp) a⟩
/-- one list of a list of lists -/
theorem lists_at {α : Type} {T : Ty α} {e e' : TypeId} {w : World} {B : Nat} {A : Option Addr} {n c : Nat} {xs : List (List α)} (h : ((T.sl e).sl e').R w B [.slice A n c] xs) {k : Nat} (hk : k < xs.length) :
    ∃ g off x A' c', A = some ⟨g, off, none⟩ ∧ g < B ∧ xs[k]? = some x ∧ (T.sl e).R w B [.slice A' x.length c'] x ∧ w.cell? ⟨g, off + k, none⟩ = some (.slice A' x.length c') := by
  obtain ⟨g, off, x, ec, h1, h2, h3, h4, h5⟩ := elem_at h hk
  have h6 := h4
  obtain ⟨A', c', rfl, _⟩ := h6
  have h7 := h5 0 _ rfl
  simp only [show (T.sl e).size = 1 from rfl, Nat.mul_one, Nat.add_zero] at h7
  exact ⟨g, off, x, A', c', h1, h2, h3, h4, h7⟩
end Go.Proofs.Ytbhobjepjaeffaa
