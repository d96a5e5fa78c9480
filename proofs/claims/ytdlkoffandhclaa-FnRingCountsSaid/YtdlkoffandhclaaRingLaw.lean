/-
  RINGLAW: what putting and taking do to a valid ring, in plain terms.
-/
import Derived.Test.YtdlkoffandhclaaRing2
import Derived.Test.YtdlkoffandhclaaFmtInt
import Derived.Test.YtdlkoffandhclaaOwn
set_option linter.unusedVariables false
set_option linter.unusedSimpArgs false
namespace Go.Proofs.Ytdlkoffandhclaa
open Go.RowKit
/-- a ring after so many rounds: what was put, what was taken, how often it was tried -/
structure RC (cap : Int) (k : Nat) (r : DRing) (put got : List ByteArray) (tried : Int) : Prop where
  ok : ringOk r = true
  cap : r.Capacity = cap
  all : got ++ r.Records = put
  wr : r.Written = put.length
  sum : r.Written + r.Lost = tried
  lost : 0 ≤ r.Lost
  few : tried ≤ k
theorem sumS_app (a b : List ByteArray) : sumS (a ++ b) = sumS a + sumS b := by simp [sumS]
theorem RC.start {cap : Int} (h0 : 0 ≤ cap) (h1 : cap ≤ 100000) : RC cap 0 ⟨cap, [], 0, 0⟩ [] [] 0 :=
  ⟨by simp [ringOk, btw, sumS]; omega, rfl, rfl, by simp, by simp, by simp, by simp⟩
theorem RC.len {cap : Int} {k : Nat} {r : DRing} {put got : List ByteArray} {tried : Int} (h : RC cap k r put got tried) : put.length ≤ k ∧ got.length ≤ k ∧ r.Records.length ≤ k := by
  have h1 := h.wr
  have h2 := h.sum
  have h3 := h.lost
  have h4 := h.few
  have h5 := congrArg List.length h.all
  rw [List.length_append] at h5
  omega
theorem RC.take {cap : Int} {k : Nat} {r : DRing} {put got : List ByteArray} {tried n : Int} (h : RC cap k r put got tried) (hn : 0 ≤ n) :
    ∃ r' l, takeR r n = (r', l) ∧ RC cap (k + 1) r' put (got ++ l) tried := by
  have hk := ringOk_bd h.ok
  have hok := h.ok
  simp only [ringOk, Bool.and_eq_true, btw_iff, decide_eq_true_eq] at hok
  obtain ⟨h1, ⟨h2, h3⟩, h4, ⟨h5, h6⟩, h7, h8⟩ := hok
  have e1 : takeR r n = (⟨r.Capacity, r.Records.drop (min n.toNat r.Records.length), r.Written, r.Lost⟩, r.Records.take (min n.toNat r.Records.length)) := by
    unfold takeR
    rw [h.ok, decide_eq_true hn]
    rfl
  refine ⟨_, _, e1, ?_⟩
  have hs : sumS r.Records = sumS (r.Records.take (min n.toNat r.Records.length)) + sumS (r.Records.drop (min n.toNat r.Records.length)) := by rw [← sumS_app, List.take_append_drop]
  refine ⟨?_, h.cap, ?_, h.wr, h.sum, h.lost, by have := h.few; omega⟩
  · simp only [ringOk, Bool.and_eq_true, btw_iff, decide_eq_true_eq]
    refine ⟨?_, ⟨h2, h3⟩, by omega, ⟨by rw [List.length_drop]; omega, h6⟩, h7, h8⟩
    rw [List.all_eq_true] at h1 ⊢
    exact fun x hx => h1 x (List.mem_of_mem_drop hx)
  · rw [List.append_assoc, List.take_append_drop]
    exact h.all
theorem RC.put {cap : Int} {k : Nat} {r : DRing} {put got : List ByteArray} {tried : Int} {s : ByteArray} (h : RC cap k r put got tried) (hs : s.size ≠ 0) (hk : k ≤ 1000) :
    ∃ r', putR r s = (r', decide (ringBytesV r + (s.size : Int) ≤ r.Capacity)) ∧ (decide (ringBytesV r + (s.size : Int) ≤ r.Capacity) = true → RC cap (k + 1) r' (put ++ [s]) got (tried + 1)) ∧ (decide (ringBytesV r + (s.size : Int) ≤ r.Capacity) = false → RC cap (k + 1) r' put got (tried + 1)) := by
  have hl := h.len
  have hbd := ringOk_bd h.ok
  have hok := h.ok
  simp only [ringOk, Bool.and_eq_true, btw_iff, decide_eq_true_eq] at hok
  obtain ⟨h1, ⟨h2, h3⟩, h4, ⟨h5, h6⟩, h7, h8⟩ := hok
  have hrb : ringBytesV r = (sumS r.Records : Int) := by unfold ringBytesV; rw [if_pos h.ok]
  have hne : (!(s.toList == [])) = true := by
    simp only [Bool.not_eq_true', beq_eq_false_iff_ne, ne_eq]
    intro h9
    apply hs
    have := congrArg List.length h9
    rw [ByteArray.toList_eq] at this
    simpa using this
  rw [hrb]
  unfold putR
  rw [h.ok, hne]
  simp only [Bool.and_self, if_true]
  have hw := h.wr
  have hsum := h.sum
  have hfew := h.few
  by_cases hc : (sumS r.Records : Int) + s.size ≤ r.Capacity
  · have e1 : decide (r.Capacity < (sumS r.Records : Int) + s.size) = false := decide_eq_false (by omega)
    rw [e1, decide_eq_true hc]
    refine ⟨_, rfl, fun _ => ?_, fun h => by simp at h⟩
    refine ⟨?_, h.cap, by rw [← h.all, List.append_assoc], by simp only [List.length_append, List.length_singleton]; omega, by simp only; omega, h.lost, by omega⟩
    simp only [ringOk, Bool.and_eq_true, btw_iff, decide_eq_true_eq]
    refine ⟨?_, ⟨h2, h3⟩, by rw [sumS_app]; simp [sumS] at hc ⊢; omega, ⟨by rw [List.length_append, List.length_singleton]; omega, by omega⟩, h7, h8⟩
    rw [List.all_append, h1]
    simpa using hne
  · have e1 : decide (r.Capacity < (sumS r.Records : Int) + s.size) = true := decide_eq_true (by omega)
    rw [e1, decide_eq_false hc]
    refine ⟨_, rfl, fun h => by simp at h, fun _ => ?_⟩
    refine ⟨?_, h.cap, h.all, h.wr, by simp only; omega, by simp only; omega, by omega⟩
    simp only [ringOk, Bool.and_eq_true, btw_iff, decide_eq_true_eq]
    exact ⟨h1, ⟨h2, h3⟩, h4, ⟨h5, h6⟩, by omega, by omega⟩
theorem RC.rest {cap : Int} {k : Nat} {r : DRing} {put got : List ByteArray} {tried : Int} (h : RC cap k r put got tried) (hk : k ≤ 1000) : ∃ r', takeR r 1000 = (r', r.Records) := by
  have hl := h.len
  have e1 : takeR r 1000 = (⟨r.Capacity, r.Records.drop (min (1000 : Int).toNat r.Records.length), r.Written, r.Lost⟩, r.Records.take (min (1000 : Int).toNat r.Records.length)) := by
    unfold takeR
    rw [h.ok]
    rfl
  have e2 : min ((1000 : Int).toNat) r.Records.length = r.Records.length := by omega
  rw [e2, List.take_length] at e1
  exact ⟨_, e1⟩
theorem dec_some : ∀ (k n : Nat), n < 10 ^ (k + 1) → 1 ≤ (Lib.decDigits n).length ∧ (Lib.decDigits n).length ≤ k + 1
  | 0, n, h => by rw [dec_lo (by omega)]; simp
  | k + 1, n, h => by
    by_cases h1 : n < 10
    · rw [dec_lo h1]; simp
    · rw [dec_hi (by omega)]
      have := dec_some k (n / 10) (by rw [Nat.pow_succ] at h; omega)
      simp only [List.length_append, List.length_singleton]
      omega
theorem dec_size {n : Nat} (h : n < 100000) : 1 ≤ (⟨(Lib.decDigits n).toArray⟩ : ByteArray).size ∧ (⟨(Lib.decDigits n).toArray⟩ : ByteArray).size ≤ 5 := by
  have := dec_some 4 n (by omega)
  show 1 ≤ (Lib.decDigits n).toArray.size ∧ _
  rw [List.size_toArray]
  exact this
theorem ring_has {W : World} {r : DRing} {A : Option Addr} {c : Nat} {S : List Nat} (h : Has tRing W [.int .i64 r.Capacity, .slice A r.Records.length c, .int .i64 r.Written, .int .i64 r.Lost] r S) : Has (strT.sl 9) W [.slice A r.Records.length c] r.Records S := by
  obtain ⟨hO, hN⟩ := h
  obtain ⟨A1, c1, S1, hc, rfl, _, h1, _⟩ := tRing_O hO
  simp only [List.cons.injEq, Value.slice.injEq, true_and, and_true] at hc
  obtain ⟨rfl, rfl⟩ := hc
  exact ⟨h1, hN⟩
theorem ring_strs {w W : World} {r : DRing} {l : List ByteArray} {A A1 : Option Addr} {c c1 : Nat} (h : Fresh (tRing.prod (strT.sl 9)) w W [.int .i64 r.Capacity, .slice A r.Records.length c, .int .i64 r.Written, .int .i64 r.Lost, .slice A1 l.length c1] (r, l)) :
    ∃ S0 S1, Has (strT.sl 9) W [.slice A r.Records.length c] r.Records S0 ∧ Has (strT.sl 9) W [.slice A1 l.length c1] l S1 ∧ (∀ b ∈ S0, w.heap.size ≤ b) ∧ (∀ b ∈ S1, w.heap.size ≤ b) ∧ ∀ b ∈ S0, b ∉ S1 := by
  obtain ⟨S, hH, hl⟩ := h.has
  obtain ⟨S0, S1, h0, h1, h2, h3, h4⟩ := Has.prod (c1 := [.int .i64 r.Capacity, .slice A r.Records.length c, .int .i64 r.Written, .int .i64 r.Lost]) (c2 := [.slice A1 l.length c1]) (by rfl) hH
  exact ⟨S0, S1, ring_has h0, h1, fun b hb => hl b (h2 b hb), fun b hb => hl b (h3 b hb), h4⟩
end Go.Proofs.Ytdlkoffandhclaa
