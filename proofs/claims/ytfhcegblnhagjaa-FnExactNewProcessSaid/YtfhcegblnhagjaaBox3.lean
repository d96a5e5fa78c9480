/-
  BOX3: 'append(own, v)' and 'own[k] = v' where the list lies before or behind two boxes with blocks between them; the world written out again behind it. Over any program.
-/
import Derived.Test.YtfhcegblnhagjaaBox2
set_option linter.unusedVariables false
set_option linter.unusedSimpArgs false
namespace Go.Proofs.Ytfhcegblnhagjaa
open Go.RowKit
theorem box3_eq (X : World) (os osm : Array Obj) (d dm : Nat) (o o2 : Obj) : (gro ((gro X os d).alloc o) osm dm).alloc o2 = gro (gro X os d) ((#[o] ++ osm).push o2) dm := by
  rw [gro_of_alloc (w := gro X os d) o, gro_gro, gro_alloc]
theorem box3_size (X : World) (os osm : Array Obj) (d dm : Nat) (o o2 : Obj) : ((gro ((gro X os d).alloc o) osm dm).alloc o2).heap.size = X.heap.size + os.size + 1 + osm.size + 1 := by
  rw [World.size_alloc, gro_size, World.size_alloc, gro_size]
theorem relit3 {X W W' : World} {os osm : Array Obj} {d dm : Nat} {o o2 : Obj} (hW : Gro ((gro ((gro X os d).alloc o) osm dm).alloc o2) W) {row : Option Nat} (hg : W.grownBy W' row)
    (hr : ∀ k, row = some k → (X.heap.size ≤ k ∧ k < X.heap.size + os.size) ∨ X.heap.size + os.size + 1 + osm.size + 1 ≤ k) :
    ∃ os' os2 d2, os'.size = os.size ∧ W' = gro ((gro ((gro X os' d).alloc o) osm dm).alloc o2) os2 d2 := by
  by_cases hc : ∀ k, row = some k → X.heap.size ≤ k ∧ k < X.heap.size + os.size
  · have hW2 := hW
    rw [box3_eq] at hW2
    obtain ⟨os', os2, d2, h1, h2⟩ := relit hW2 hg hc
    exact ⟨os', os2, d2, h1, by rw [box3_eq]; exact h2⟩
  · obtain ⟨os2, d2, h⟩ := hW.grown hg (fun k hk => by
      rw [box3_size]
      rcases hr k hk with h | h
      · exact absurd (fun k' hk' => by rw [hk] at hk'; injection hk' with e; subst e; exact h) hc
      · exact h)
    exact ⟨os, os2, d2, rfl, h⟩
theorem Same.box3_mid {X : World} {os os' osm os2 os2' : Array Obj} {d d' dm d2 d2' lo hi : Nat} {o o' o2 : Obj} (hs : os'.size = os.size) (hlo : X.heap.size + os.size + 1 ≤ lo) (hhi : hi ≤ X.heap.size + os.size + 1 + osm.size + 1) :
    Same lo hi (Go.Proofs.Ytfhcegblnhagjaa.gro ((Go.Proofs.Ytfhcegblnhagjaa.gro ((Go.Proofs.Ytfhcegblnhagjaa.gro X os d).alloc o) osm dm).alloc o2) os2 d2) (Go.Proofs.Ytfhcegblnhagjaa.gro ((Go.Proofs.Ytfhcegblnhagjaa.gro ((Go.Proofs.Ytfhcegblnhagjaa.gro X os' d').alloc o') osm dm).alloc o2) os2' d2') := by
  intro k h1 h2
  rw [gro_get _ _ _ (by rw [box3_size]; omega), gro_get _ _ _ (by rw [box3_size]; omega), box3_eq, box3_eq]
  simp only [Go.Proofs.Ytfhcegblnhagjaa.gro]
  have e : ∀ (oz : Array Obj) (ob : Obj), oz.size = os.size → (X.heap ++ oz ++ (#[ob] ++ osm).push o2)[k]? = (osm.push o2)[k - (X.heap.size + os.size + 1)]? := fun oz ob hz => by
    rw [show X.heap ++ oz ++ (#[ob] ++ osm).push o2 = (X.heap ++ oz ++ #[ob]) ++ osm.push o2 from by simp, Array.getElem?_append_right (by simp; omega)]
    congr 1
    simp
    omega
  rw [e _ _ hs, e _ _ rfl]
theorem Same.box3_base {a b : World} {os osm os2 : Array Obj} {d d' dm d2 n m : Nat} {o o2 : Obj} (h : b.heap.size = a.heap.size) (hn : a.heap.size ≤ n) :
    Same n m (Go.Proofs.Ytfhcegblnhagjaa.gro ((Go.Proofs.Ytfhcegblnhagjaa.gro ((Go.Proofs.Ytfhcegblnhagjaa.gro a os d).alloc o) osm dm).alloc o2) os2 d2) (Go.Proofs.Ytfhcegblnhagjaa.gro ((Go.Proofs.Ytfhcegblnhagjaa.gro ((Go.Proofs.Ytfhcegblnhagjaa.gro b os d').alloc o) osm dm).alloc o2) os2 d2) := by
  intro k hk _
  rw [box3_eq, box3_eq]
  simp only [Go.Proofs.Ytfhcegblnhagjaa.gro]
  have e : ∀ x : Array Obj, x.size ≤ k → (x ++ os ++ (#[o] ++ osm).push o2 ++ os2)[k]? = (os ++ ((#[o] ++ osm).push o2 ++ os2))[k - x.size]? := by
    intro x hx
    rw [show x ++ os ++ (#[o] ++ osm).push o2 ++ os2 = x ++ (os ++ ((#[o] ++ osm).push o2 ++ os2)) from by simp [Array.append_assoc], Array.getElem?_append_right hx]
  rw [e _ (by omega), e _ (by omega), h]
/-- another thing in the first box -/
theorem Same.box3_o {X : World} {os osm os2 : Array Obj} {d dm d2 lo hi : Nat} {o o' o2 : Obj} (h : hi ≤ X.heap.size + os.size ∨ X.heap.size + os.size + 1 ≤ lo) :
    Same lo hi (Go.Proofs.Ytfhcegblnhagjaa.gro ((Go.Proofs.Ytfhcegblnhagjaa.gro ((Go.Proofs.Ytfhcegblnhagjaa.gro X os d).alloc o) osm dm).alloc o2) os2 d2) (Go.Proofs.Ytfhcegblnhagjaa.gro ((Go.Proofs.Ytfhcegblnhagjaa.gro ((Go.Proofs.Ytfhcegblnhagjaa.gro X os d).alloc o') osm dm).alloc o2) os2 d2) := by
  intro k h1 h2
  rw [box3_eq, box3_eq]
  simp only [Go.Proofs.Ytfhcegblnhagjaa.gro]
  by_cases hk : k < X.heap.size + os.size
  · have e : ∀ ob : Obj, (X.heap ++ os ++ (#[ob] ++ osm).push o2 ++ os2)[k]? = (X.heap ++ os)[k]? := fun ob => by
      rw [Array.getElem?_append_left (by simp; omega), Array.getElem?_append_left (by simp; omega)]
    rw [e, e]
  · have hk2 : X.heap.size + os.size + 1 ≤ k := by omega
    have e : ∀ ob : Obj, (X.heap ++ os ++ (#[ob] ++ osm).push o2 ++ os2)[k]? = (osm.push o2 ++ os2)[k - (X.heap.size + os.size + 1)]? := fun ob => by
      rw [show X.heap ++ os ++ (#[ob] ++ osm).push o2 ++ os2 = (X.heap ++ os ++ #[ob]) ++ (osm.push o2 ++ os2) from by simp, Array.getElem?_append_right (by simp; omega)]
      congr 1
      simp
      omega
    rw [e, e]
section
variable {α : Type} {T : Ty α} {e : TypeId} {P : Program} {t : TypeId} {bytes : Nat} {ops : Array Oper} {rest : List Oper} {o : Oper} {a : Act} {Q : Exit → Act → World → Prop} {K : Act → World → Prop}
theorem run_append_fone3 (hE : Elem P t e T bytes) (hf : Flat T) {ty : TypeId} {X W W1 : World} {os osm : Array Obj} {d dm : Nat} {b b2 : Obj} {B g cc hi n2 : Nat} {A : Option Addr} {n c : Nat} {xs : List α} (h : Fr2N (T.sl e) X.heap.size hi n2 W [.slice A n c] xs) (hg : Gro ((gro ((gro X os d).alloc b) osm dm).alloc b2) W)
    (hhi : hi = X.heap.size + os.size) (hn2 : n2 = X.heap.size + os.size + 1 + osm.size + 1)
    {ec : List Value} {y : α} (hy : T.R W1 B ec y) (hcell : ∀ (j : Nat) (u : Value), ec[j]? = some u → W.cell? ⟨g, j, none⟩ = some u)
    {L : Nat} (hL : L = n + 1) (hb : L * bytes ≤ 140737488355328) (h63 : L ≤ 9223372036854775807) :
    ∃ A' c'' os' os2 d2, (Builtin.append_ #[t, t] ty #[.slice A n c, .slice (some ⟨g, 0, none⟩) 1 cc]).run P W = .ok (.slice A' L c'') (gro ((gro ((gro X os' d).alloc b) osm dm).alloc b2) os2 d2) ∧ os'.size = os.size ∧ Fr2N (T.sl e) X.heap.size hi n2 (gro ((gro ((gro X os' d).alloc b) osm dm).alloc b2) os2 d2) [.slice A' L c''] (xs ++ [y]) := by
  have hs0 := hg.size
  rw [box3_size] at hs0
  obtain ⟨S, hO, hN, hS⟩ := h
  obtain ⟨hO', hsub⟩ := flat_own hf hO
  have hNd : (blockOf A).Nodup := by cases A <;> simp [blockOf]
  subst hhi hn2
  by_cases hcase : ∀ k ∈ blockOf A, X.heap.size ≤ k ∧ k < X.heap.size + os.size
  · obtain ⟨A', c'', W', hrun, ⟨row, hgr, hrow⟩, hF⟩ := run_append_one (P := P) (ty := ty) (W0 := X) (We := W) (m0 := X.heap.size + os.size + 1 + osm.size + 1) hE hs0 hs0 (hi0 := X.heap.size + os.size) ⟨blockOf A, hO', hNd, hcase⟩ (fresh_flat hf hy) (by omega) (by omega) hcell hL hb h63
    obtain ⟨os', os2, d2, hos, rfl⟩ := relit3 hg hgr (fun k hk => .inl (hrow k hk))
    exact ⟨A', c'', os', os2, d2, hrun, hos, hF⟩
  · have hhigh : ∀ k ∈ blockOf A, ((gro ((gro X os d).alloc b) osm dm).alloc b2).heap.size ≤ k := by
      intro k hk
      cases A with
      | none => simp [blockOf] at hk
      | some ad =>
        simp only [blockOf, List.mem_singleton, forall_eq] at hk hcase
        subst hk
        rcases hS ad.block (hsub _ (by simp [blockOf])) with h | h
        · exact absurd h hcase
        · rw [box3_size]; exact h
    obtain ⟨A', c'', W', hrun, ⟨row, hgr, hrow⟩, hF⟩ := run_append_one (P := P) (ty := ty) (W0 := (gro ((gro X os d).alloc b) osm dm).alloc b2) (We := W) (m0 := W.heap.size) hE (Nat.le_refl _) (Nat.le_refl _) (hi0 := W.heap.size) ⟨blockOf A, hO', hNd, fun k hk => ⟨hhigh k hk, (T.sl e).ltO hO' k hk⟩⟩ (fresh_flat hf hy) (Nat.le_refl _) hg.size hcell hL hb h63
    obtain ⟨os2, d2, rfl⟩ := hg.grown hgr (fun k hk => (hrow k hk).1)
    obtain ⟨S2, h1, h2, h3⟩ := hF
    exact ⟨A', c'', os, os2, d2, hrun, rfl, S2, h1, h2, fun k hk => .inr (by have := h3 k hk; rw [box3_size] at this; omega)⟩
theorem wpList_append_fone3 (hgd : o.guard = none) (s x : Operand) (hE : Elem P t e T bytes) (hf : Flat T) {X W W1 : World} {os osm : Array Obj} {d dm : Nat} {b b2 : Obj} {B g cc hi n2 : Nat} {A : Option Addr} {n c : Nat} {xs : List α} (h : Fr2N (T.sl e) X.heap.size hi n2 W [.slice A n c] xs) (hg : Gro ((gro ((gro X os d).alloc b) osm dm).alloc b2) W)
    (hhi : hi = X.heap.size + os.size) (hn2 : n2 = X.heap.size + os.size + 1 + osm.size + 1)
    {ec : List Value} {y : α} (hy : T.R W1 B ec y)
    (ho : o.op = .call { callee := .builtin .append, args := #[s, x], argTypes := #[t, t] }) (hs : a.eval s = .slice A n c) (hx : a.eval x = .slice (some ⟨g, 0, none⟩) 1 cc)
    (hcell : ∀ (j : Nat) (u : Value), ec[j]? = some u → W.cell? ⟨g, j, none⟩ = some u)
    {L : Nat} (hL : L = n + 1) (hb : L * bytes ≤ 140737488355328) (h63 : L ≤ 9223372036854775807)
    (hK : ∀ A' c'' os' os2 d2, os'.size = os.size → Fr2N (T.sl e) X.heap.size hi n2 (gro ((gro ((gro X os' d).alloc b) osm dm).alloc b2) os2 d2) [.slice A' L c''] (xs ++ [y]) → wpList P ops Q rest (a.put o.dst (.slice A' L c'')) (gro ((gro ((gro X os' d).alloc b) osm dm).alloc b2) os2 d2)) : wpList P ops Q (o :: rest) a W :=
  wpList_plain hgd fun K hKK => by
    obtain ⟨A', c'', os', os2, d2, hrun, hos, hF⟩ := run_append_fone3 (P := P) (ty := o.type) hE hf h hg hhi hn2 hy hcell hL hb h63
    exact wp_of_run_append s x ho hs hx hrun (hKK _ _ (hK A' c'' os' os2 d2 hos hF))
/-- 'own[k] = v' -/
theorem set_box3 {X W : World} {os osm : Array Obj} {d dm : Nat} {b b2 : Obj} {hi n2 : Nat} {A : Option Addr} {n c : Nat} {xs : List Int} {k : Nat} {x y : Int} (h : Fr2N (intT.sl e) X.heap.size hi n2 W [.slice A n c] xs) (hg : Gro ((gro ((gro X os d).alloc b) osm dm).alloc b2) W)
    (hhi : hi = X.heap.size + os.size) (hn2 : n2 = X.heap.size + os.size + 1 + osm.size + 1) (hx : xs[k]? = some x) (hy : I64 y) :
    ∃ g, A = some ⟨g, 0, none⟩ ∧ g < W.heap.size ∧ W.frozen? ⟨g, k, none⟩ = false ∧ W.cell? ⟨g, k, none⟩ = some (.int .i64 x) ∧ ∃ os' os2 d2, os'.size = os.size ∧ W.setCell ⟨g, k, none⟩ (.int .i64 y) = gro ((gro ((gro X os' d).alloc b) osm dm).alloc b2) os2 d2 ∧
      Fr2N (intT.sl e) X.heap.size hi n2 (gro ((gro ((gro X os' d).alloc b) osm dm).alloc b2) os2 d2) [.slice A n c] (xs.set k y) := by
  obtain ⟨S, hO, hN, hS⟩ := h
  obtain ⟨g, ec, Sc, rfl, hgS, hgl, hgc, hSc, hO1, hfz, hcell, hset⟩ := own_put hO hN hx
  obtain ⟨rfl, b1, b2', rfl⟩ := hO1
  have hc := hcell 0 _ rfl
  simp only [intT, Nat.mul_one, Nat.add_zero] at hc
  have h1 := hset [.int .i64 y] y ⟨rfl, hy.1, hy.2, rfl⟩
  simp only [intT, Nat.mul_one, setRow, Nat.add_zero] at h1
  refine ⟨g, rfl, hgl, hfz k, hc, ?_⟩
  have hgr : W.grownBy (W.setCell ⟨g, k, none⟩ (.int .i64 y)) (some g) := ⟨rfl, rfl, rfl, by simp, fun j _ hj => Below.heap_setCell _ _ _ _ (fun e => hj (by rw [e]))⟩
  obtain ⟨os', os2, d2, hos, he⟩ := relit3 hg hgr (fun j hj => by
    injection hj with hj
    subst hj
    have := hS g hgS
    omega)
  refine ⟨os', os2, d2, hos, he, ?_⟩
  rw [← he]
  exact ⟨S, h1.1, hN, hS⟩
end
end Go.Proofs.Ytfhcegblnhagjaa
