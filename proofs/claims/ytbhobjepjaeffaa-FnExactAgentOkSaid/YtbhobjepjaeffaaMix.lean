/-
  MIX: an element of an owned list whose own cells and own blocks change.
-/
import Derived.Test.YtbhobjepjaeffaaNest
import Derived.Test.YtbhobjepjaeffaaBoxes
set_option linter.unusedVariables false
set_option linter.unusedSimpArgs false
namespace Go.Proofs.Ytbhobjepjaeffaa
open Go.RowKit
theorem own_mix {α : Type} {T : Ty α} {e : TypeId} {w : World} {A : Option Addr} {n c : Nat} {xs : List α} {S : List Nat} (h : (T.sl e).O w [.slice A n c] xs S) (hS : S.Nodup) {k : Nat} {x : α} (hx : xs[k]? = some x) :
    ∃ g ec Sc cur, A = some ⟨g, 0, none⟩ ∧ g ∈ S ∧ g < w.heap.size ∧ g ∉ Sc ∧ (∀ j ∈ Sc, j ∈ S) ∧ Sc.Nodup ∧ T.O w ec x Sc ∧ w.heap[g]? = some (.cells cur e (0, 0)) ∧ k * T.size + T.size ≤ cur.size ∧ (∀ (j : Nat) (u : Value), ec[j]? = some u → cur[k * T.size + j]? = some u) ∧
      (∀ (w' : World) (y : α) (ec' : List Value) (cur' : Array Value), T.O w' ec' y Sc → w'.heap[g]? = some (.cells cur' e (0, 0)) → cur'.size = cur.size → (∀ i, i < k * T.size ∨ k * T.size + T.size ≤ i → cur'[i]? = cur[i]?) → (∀ (j : Nat) (u : Value), ec'[j]? = some u → cur'[k * T.size + j]? = some u) → OnlyS (g :: Sc) w w' → (T.sl e).O w' [.slice A n c] (xs.set k y) S) := by
  obtain ⟨A', c', ecs, S', h1, h2, h3, rfl⟩ := h
  injection h1 with h1 _
  injection h1 with hA hn hc
  subst hA hn hc
  have hk : k < xs.length := (List.getElem?_eq_some_iff.1 hx).1
  obtain ⟨a, ec, b, Sa, Sc, Sb, rfl, rfl, hl, ha, hO, hb⟩ := Rows.part h3 hx
  obtain ⟨hlen, hrest⟩ := h2
  rcases hrest with ⟨_, hn⟩ | ⟨g, cap, cur, hv, hbase, hg, hnc, hcm, hcs, htake⟩
  · omega
  · injection hv with hA _ hc
    subst hA hc
    have hgl : g < w.heap.size := (Array.getElem?_eq_some_iff.1 hg).1
    simp only [blockOf, List.singleton_append, List.nodup_cons, List.nodup_append, List.mem_append, not_or] at hS
    obtain ⟨⟨hga, hgc, hgb⟩, hna, ⟨hncd, hnb, hdcb⟩, hda⟩ := hS
    have hec : ec.length = T.size := T.lenO hO
    have hlc : (a ++ (ec ++ b)).length ≤ cur.size := by
      rw [← htake, List.length_take]
      have : cur.toList.length = cur.size := Array.length_toList
      omega
    have hcell : ∀ (j : Nat) (u : Value), (a ++ (ec ++ b))[j]? = some u → cur[j]? = some u := by
      intro j u hu
      rw [← htake, List.getElem?_take] at hu
      split at hu
      · simpa using hu
      · cases hu
    have hl2 : (a ++ (ec ++ b)).length = a.length + ec.length + b.length := by simp only [List.length_append]; omega
    have hM : xs.length * T.size = a.length + ec.length + b.length := by rw [← hlen, hl2]
    refine ⟨g, ec, Sc, cur, rfl, by simp [blockOf], hgl, hgc, fun j hj => by simp [hj], hncd, hO, hg, by omega, fun j u hu => ?_, fun w' y ec' cur' hy hg' hsz hout hin hon => ?_⟩
    · apply hcell
      rw [List.getElem?_append_right (by omega), hl, Nat.add_sub_cancel_left, List.getElem?_append_left (List.getElem?_eq_some_iff.1 hu).1]
      exact hu
    · have hec' : ec'.length = T.size := T.lenO hy
      have hlt : ∀ {S : List Nat} {ecs : List Value} {xs : List α}, Rows T w ecs xs S → ∀ i ∈ S, i < w.heap.size := fun h i hi => Rows.lt h i hi
      refine ⟨some ⟨g, 0, none⟩, c, a ++ (ec' ++ b), _, by rw [List.length_set], ⟨?_, .inr ⟨g, c, cur', by rw [List.length_set], hbase, hg', by simpa using hnc, hcm, by rw [hsz]; exact hcs, ?_⟩⟩, Rows.join hx (Rows.keep ha ?_) hy (Rows.keep hb ?_), rfl⟩
      · rw [List.length_set, ← hlen]
        simp [hec, hec']
      · rw [List.length_set]
        apply List.ext_getElem?
        intro i
        have hcl : cur'.toList.length = cur'.size := Array.length_toList
        rw [List.getElem?_take]
        by_cases hi : i < xs.length * T.size
        · rw [if_pos hi, Array.getElem?_toList]
          have hci : ∀ u, (a ++ (ec ++ b))[i]? = some u → cur[i]? = some u := hcell i
          by_cases h1 : i < k * T.size
          · rw [hout i (.inl h1), List.getElem?_append_left (by omega)]
            have h2 : i < a.length := by omega
            rw [List.getElem?_eq_getElem h2]
            exact hci _ (by rw [List.getElem?_append_left h2, List.getElem?_eq_getElem h2])
          · by_cases h2 : i < k * T.size + T.size
            · rw [List.getElem?_append_right (by omega), List.getElem?_append_left (by omega)]
              have h3 : i - a.length < ec'.length := by omega
              rw [List.getElem?_eq_getElem h3]
              have := hin (i - a.length) _ (List.getElem?_eq_getElem h3)
              rw [show k * T.size + (i - a.length) = i from by omega] at this
              exact this
            · rw [hout i (.inr (by omega)), List.getElem?_append_right (by omega), List.getElem?_append_right (by omega)]
              have h3 : i - a.length - ec'.length < b.length := by omega
              rw [List.getElem?_eq_getElem h3]
              refine hci _ ?_
              rw [List.getElem?_append_right (by omega), List.getElem?_append_right (by omega), show i - a.length - ec.length = i - a.length - ec'.length from by omega, List.getElem?_eq_getElem h3]
        · rw [if_neg hi, List.getElem?_eq_none (by simp only [List.length_append]; omega)]
      · exact fun i hi => hon.block i (hlt ha i hi) (fun hm => by
          rcases List.mem_cons.1 hm with rfl | hm
          · exact hga hi
          · exact hda i hi i (.inl hm) rfl)
      · exact fun i hi => hon.block i (hlt hb i hi) (fun hm => by
          rcases List.mem_cons.1 hm with rfl | hm
          · exact hgb hi
          · exact hdcb i hm i hi rfl)
theorem keepS {α : Type} (T : Ty α) {w w' : World} {cs : List Value} {x : α} {S L : List Nat} (h : T.O w cs x S) (ho : OnlyS L w w') (hd : ∀ b ∈ S, b ∉ L) : T.O w' cs x S :=
  T.keepO h (fun k hk => ho.block k (T.ltO h k hk) (hd k hk))
theorem not_one {g : Nat} {S : List Nat} (h : g ∉ S) : ∀ b ∈ S, b ∉ [g] := fun b hb hm => by
  simp only [List.mem_singleton] at hm
  exact h (hm ▸ hb)
theorem frz_blk {W : World} {g : Nat} {cur : Array Value} {e : TypeId} (h : W.heap[g]? = some (.cells cur e (0, 0))) : ∀ j, W.frozen? ⟨g, j, none⟩ = false := fun j => by simp [World.frozen?, h]
end Go.Proofs.Ytbhobjepjaeffaa
