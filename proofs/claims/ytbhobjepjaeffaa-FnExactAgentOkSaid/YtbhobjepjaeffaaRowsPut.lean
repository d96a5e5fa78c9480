/-
  ROWSPUT: plain words for the laws' own list functions over structs: a row filled element by element (toXS), an element stored anew (markXS). Over any program.
-/
import Derived.Test.YtbhobjepjaeffaaBase
import Derived.Test.YtbhobjepjaeffaaMark
set_option linter.unusedVariables false
set_option linter.unusedSimpArgs false
namespace Go.Proofs.Ytbhobjepjaeffaa
open Go.RowKit
/-- cells p + j .. of an array, stored one by one -/
def setA (cur : Array Value) (p : Nat) : Nat → List Value → Array Value
  | _, [] => cur
  | j, v :: vs => setA (cur.setIfInBounds (p + j) v) p (j + 1) vs
def setL (l : List Value) (p : Nat) : Nat → List Value → List Value
  | _, [] => l
  | j, v :: vs => setL (l.set (p + j) v) p (j + 1) vs
theorem setA_toList (vs : List Value) : ∀ (cur : Array Value) (p j : Nat), (setA cur p j vs).toList = setL cur.toList p j vs := by
  induction vs with
  | nil => intro cur p j; rfl
  | cons v vs ih => intro cur p j; simp only [setA, setL]; rw [ih, Array.toList_setIfInBounds]
theorem setL_length (vs : List Value) : ∀ (l : List Value) (p j : Nat), (setL l p j vs).length = l.length := by
  induction vs with
  | nil => intro l p j; rfl
  | cons v vs ih => intro l p j; simp only [setL]; rw [ih, List.length_set]
theorem setA_size (vs : List Value) (cur : Array Value) (p j : Nat) : (setA cur p j vs).size = cur.size := by
  rw [← Array.length_toList, setA_toList, setL_length, Array.length_toList]
theorem setL_eq (vs : List Value) : ∀ (l : List Value) (p j : Nat), p + j + vs.length ≤ l.length → setL l p j vs = l.take (p + j) ++ (vs ++ l.drop (p + j + vs.length)) := by
  induction vs with
  | nil => intro l p j _; simp [setL]
  | cons v vs ih =>
    intro l p j h
    simp only [List.length_cons] at h
    have hl : (l.take (p + j)).length = p + j := by rw [List.length_take]; omega
    simp only [setL]
    rw [ih _ _ _ (by rw [List.length_set]; omega), List.length_cons, show p + (j + 1) = p + j + 1 from rfl, List.drop_set_of_lt (by omega), List.take_add_one, List.take_set_of_le (Nat.le_refl _), List.getElem?_set_self (by omega)]
    simp only [Option.toList_some, List.append_assoc, List.cons_append, List.nil_append]
    rw [show p + j + 1 + vs.length = p + j + (vs.length + 1) from by omega]
theorem setL_take (vs : List Value) (l : List Value) (p : Nat) (h : p + vs.length ≤ l.length) : (setL l p 0 vs).take (p + vs.length) = l.take p ++ vs := by
  rw [setL_eq vs l p 0 (by omega), ← List.append_assoc]
  rw [List.take_append_of_le_length (by rw [List.length_append, List.length_take]; omega), List.take_of_length_le (by rw [List.length_append, List.length_take]; omega)]
  rfl
/-- one round of toXS: the j-th element's cells go into the row -/
theorem rows_put {α : Type} {T : Ty α} {e : TypeId} {w : World} {cur : Array Value} {os os1 : Array Obj} {d d1 : Nat} {xs : List α} {x : α} {j n : Nat} {S' : List Nat} {ec : List Value}
    (hr : Rows T (gro (w.alloc (.cells cur e)) os d) (cur.toList.take (j * T.size)) (xs.take j) S') (hN : S'.Nodup) (hL : ∀ b ∈ S', w.heap.size + 1 ≤ b)
    (hsz : cur.size = n * T.size) (hj : j < n) (hx : xs[j]? = some x)
    (hF : Fresh T (gro (w.alloc (.cells cur e)) os d) (gro (w.alloc (.cells cur e)) os1 d1) ec x) (hg : Gro (gro (w.alloc (.cells cur e)) os d) (gro (w.alloc (.cells cur e)) os1 d1)) :
    ∃ S'', Rows T (gro (w.alloc (.cells (setA cur (j * T.size) 0 ec) e)) os1 d1) ((setA cur (j * T.size) 0 ec).toList.take ((j + 1) * T.size)) (xs.take (j + 1)) S'' ∧ S''.Nodup ∧ (∀ b ∈ S'', w.heap.size + 1 ≤ b) ∧ (setA cur (j * T.size) 0 ec).size = n * T.size := by
  obtain ⟨S, hO, hN2, hL2⟩ := hF
  have hlen : ec.length = T.size := T.lenO hO
  have hle : (j + 1) * T.size ≤ n * T.size := Nat.mul_le_mul_right _ hj
  have hadd : (j + 1) * T.size = j * T.size + T.size := by rw [Nat.add_mul, Nat.one_mul]
  have key : ∀ k, w.heap.size + 1 ≤ k → (gro (w.alloc (.cells (setA cur (j * T.size) 0 ec) e)) os1 d1).heap[k]? = (gro (w.alloc (.cells cur e)) os1 d1).heap[k]? := by
    intro k hk
    have h1 : ∀ o : Obj, (w.alloc o).heap.size = w.heap.size + 1 := fun o => World.size_alloc w o
    simp only [gro]
    rw [Array.getElem?_append_right (by rw [h1]; exact hk), Array.getElem?_append_right (by rw [h1]; exact hk), h1, h1]
  have hU := Rows.lt hr
  have r1 : Rows T (gro (w.alloc (.cells (setA cur (j * T.size) 0 ec) e)) os1 d1) (cur.toList.take (j * T.size)) (xs.take j) S' :=
    Rows.keep hr (fun k hk => (key k (hL k hk)).trans (hg.block (hU k hk)))
  have hL3 : ∀ b ∈ S, w.heap.size + 1 ≤ b := fun b hb => by have := hL2 b hb; rw [gro_size, World.size_alloc] at this; omega
  have r2 := Rows.snoc r1 (T.keepO hO (fun k hk => key k (hL3 k hk)))
  refine ⟨S' ++ S, ?_, List.nodup_append.2 ⟨hN, hN2, fun a ha b hb he => ?_⟩, fun b hb => ?_, ?_⟩
  · rw [setA_toList, hadd, ← hlen, setL_take _ _ _ (by rw [hlen]; have : cur.toList.length = cur.size := Array.length_toList; omega), hlen, take_snoc hx]
    exact r2
  · have h1 := hU a ha
    have h2 := hL2 b hb
    omega
  · rcases List.mem_append.1 hb with h | h
    · exact hL b h
    · exact hL3 b h
  · rw [setA_size]; exact hsz
theorem rows_done {α : Type} {T : Ty α} {e : TypeId} {w : World} {cur : Array Value} {os : Array Obj} {d : Nat} {xs : List α} {S' : List Nat} {p : Nat}
    (hr : Rows T (gro (w.alloc (.cells cur e)) os d) (cur.toList.take p) (xs.take xs.length) S') (hN : S'.Nodup) (hL : ∀ b ∈ S', w.heap.size + 1 ≤ b) (hsz : cur.size = xs.length * T.size) (hp : xs.length * T.size ≤ p) (hm : xs.length ≤ 9223372036854775807) :
    RetSl T e xs w (.returned (.slice (some ⟨w.heap.size, 0, none⟩) xs.length xs.length)) (gro (w.alloc (.cells cur e)) os d) := by
  rw [List.take_length, List.take_of_length_le (by rw [Array.length_toList, hsz]; exact hp)] at hr
  refine ⟨_, _, rfl, ⟨w.heap.size :: S', own_made (e := e) ?_ hr hm, List.nodup_cons.2 ⟨fun h => by have := hL _ h; omega, hN⟩, fun b hb => ?_⟩, ((Gro.refl _).alloc _).more _ _⟩
  · rw [gro_get _ _ _ (by simp), World.alloc]
    simp
  · rcases List.mem_cons.1 hb with h | h
    · omega
    · have := hL b h; omega
/-- cells of a row stored one by one -/
def setRow (w : World) (g p : Nat) : Nat → List Value → World
  | _, [] => w
  | j, v :: vs => setRow (w.setCell ⟨g, p + j, none⟩ v) g p (j + 1) vs
theorem setRow_at (vs : List Value) : ∀ (w : World) (g p j : Nat) (cur : Array Value) (e : TypeId), w.heap[g]? = some (.cells cur e (0, 0)) → (setRow w g p j vs).heap[g]? = some (.cells (setA cur p j vs) e (0, 0)) := by
  induction vs with
  | nil => intro w g p j cur e h; exact h
  | cons v vs ih => intro w g p j cur e h; exact ih _ _ _ _ _ _ (heap_setCell_at h _ _)
theorem setRow_only (vs : List Value) {S : List Nat} {g : Nat} (hg : g ∈ S) : ∀ (w0 w : World) (p j : Nat), OnlyS S w0 w → OnlyS S w0 (setRow w g p j vs) := by
  induction vs with
  | nil => intro w0 w p j h; exact h
  | cons v vs ih => intro w0 w p j h; exact ih _ _ _ _ (h.setCell (p := ⟨g, p + j, none⟩) hg v)
theorem setRow_other (vs : List Value) : ∀ (w : World) (g p j k : Nat), k ≠ g → (setRow w g p j vs).heap[k]? = w.heap[k]? := by
  induction vs with
  | nil => intro w g p j k _; rfl
  | cons v vs ih => intro w g p j k hk; exact (ih _ _ _ _ _ hk).trans (Below.heap_setCell w ⟨g, p + j, none⟩ v k hk)
/-- the k-th element of an owned list: where it lies; and what storing all its cells anew leaves -/
theorem own_put {α : Type} {T : Ty α} {e : TypeId} {w : World} {A : Option Addr} {n c : Nat} {xs : List α} {S : List Nat} (h : (T.sl e).O w [.slice A n c] xs S) (hS : S.Nodup) {k : Nat} {x : α} (hx : xs[k]? = some x) :
    ∃ g ec Sc, A = some ⟨g, 0, none⟩ ∧ g ∈ S ∧ g < w.heap.size ∧ g ∉ Sc ∧ (∀ j ∈ Sc, j ∈ S) ∧ T.O w ec x Sc ∧ (∀ j, w.frozen? ⟨g, j, none⟩ = false) ∧ (∀ j u, ec[j]? = some u → w.cell? ⟨g, k * T.size + j, none⟩ = some u) ∧
      (∀ ec' y, T.O w ec' y Sc → (T.sl e).O (setRow w g (k * T.size) 0 ec') [.slice A n c] (xs.set k y) S ∧ OnlyS S w (setRow w g (k * T.size) 0 ec')) := by
  obtain ⟨A', c', ecs, S', h1, h2, h3, rfl⟩ := h
  injection h1 with h1 _
  injection h1 with hA hn hc
  subst hA hn hc
  have hk : k < xs.length := (List.getElem?_eq_some_iff.1 hx).1
  obtain ⟨a, ec, b, Sa, Sc, Sb, rfl, rfl, hl, ha, hO, hb⟩ := Rows.part h3 hx
  obtain ⟨hlen, hrest⟩ := h2
  rcases hrest with ⟨_, hn⟩ | ⟨g, cap, cur, hv, hbase, hg, hnc, hcm, hcs, htake⟩
  · omega
  · injection hv with hA _ hc
    subst hA hc
    have hgl : g < w.heap.size := (Array.getElem?_eq_some_iff.1 hg).1
    simp only [blockOf, List.singleton_append, List.nodup_cons, List.nodup_append, List.mem_append, not_or] at hS
    obtain ⟨⟨hga, hgc, hgb⟩, hna, ⟨hncd, hnb, hdcb⟩, hda⟩ := hS
    have hec : ec.length = T.size := T.lenO hO
    have hlc : (a ++ (ec ++ b)).length ≤ cur.size := by
      rw [← htake, List.length_take]
      have : cur.toList.length = cur.size := Array.length_toList
      omega
    have hcell : ∀ (j : Nat) (u : Value), (a ++ (ec ++ b))[j]? = some u → cur[j]? = some u := by
      intro j u hu
      rw [← htake, List.getElem?_take] at hu
      split at hu
      · simpa using hu
      · cases hu
    refine ⟨g, ec, Sc, rfl, by simp [blockOf], hgl, hgc, fun j hj => by simp [hj], hO, fun j => by simp [World.frozen?, hg], fun j u hu => ?_, fun ec' y hy => ?_⟩
    · rw [cell_of_row w g _ cur e (0, 0) hg]
      apply hcell
      rw [List.getElem?_append_right (by omega), hl, Nat.add_sub_cancel_left, List.getElem?_append_left (List.getElem?_eq_some_iff.1 hu).1]
      exact hu
    · have hec' : ec'.length = T.size := T.lenO hy
      have hother : ∀ i, i ≠ g → (setRow w g (k * T.size) 0 ec').heap[i]? = w.heap[i]? := fun i hi => setRow_other _ _ _ _ _ _ hi
      have hl2 : (a ++ (ec ++ b)).length = a.length + ec.length + b.length := by simp only [List.length_append]; omega
      refine ⟨⟨some ⟨g, 0, none⟩, c, a ++ (ec' ++ b), _, by rw [List.length_set], ⟨?_, .inr ⟨g, c, setA cur (k * T.size) 0 ec', by rw [List.length_set], hbase, setRow_at _ _ _ _ _ _ _ hg, by simpa using hnc, hcm, by rw [setA_size]; exact hcs, ?_⟩⟩, Rows.join hx (Rows.keep ha ?_) (T.keepO hy ?_) (Rows.keep hb ?_), rfl⟩, ?_⟩
      · rw [List.length_set, ← hlen]
        simp [hec, hec']
      · rw [List.length_set]
        rw [setA_toList, setL_eq _ _ _ _ (by rw [hec']; have : cur.toList.length = cur.size := Array.length_toList; omega)]
        have hM : xs.length * T.size = a.length + ec.length + b.length := by rw [← hlen, hl2]
        have e1 : cur.toList.take (k * T.size + 0) = a := by
          have h := congrArg (List.take (k * T.size)) htake
          rw [List.take_take, Nat.min_eq_left (by omega)] at h
          rw [Nat.add_zero, h, List.take_append_of_le_length (Nat.le_of_eq hl.symm), List.take_of_length_le (Nat.le_of_eq hl)]
        have e2 : (cur.toList.drop (k * T.size + 0 + ec'.length)).take (xs.length * T.size - (k * T.size + T.size)) = b := by
          have h := congrArg (List.drop (k * T.size + T.size)) htake
          have hae : (a ++ ec).length = k * T.size + T.size := by rw [List.length_append, hl, hec]
          rw [List.drop_take, ← List.append_assoc, List.drop_append_of_le_length (Nat.le_of_eq hae.symm), List.drop_of_length_le (Nat.le_of_eq hae), List.nil_append] at h
          rw [hec', Nat.add_zero]
          exact h
        have hae' : (a ++ ec').length = k * T.size + T.size := by rw [List.length_append, hl, hec']
        rw [e1, ← List.append_assoc, List.take_append, List.take_of_length_le (by rw [hae']; omega), hae', e2, List.append_assoc]
      · exact fun i hi => hother i (fun e => hga (e ▸ hi))
      · exact fun i hi => hother i (fun e => hgc (e ▸ hi))
      · exact fun i hi => hother i (fun e => hgb (e ▸ hi))
      · exact setRow_only _ (by simp [blockOf]) _ _ _ _ (OnlyS.refl _ _)
end Go.Proofs.Ytbhobjepjaeffaa
