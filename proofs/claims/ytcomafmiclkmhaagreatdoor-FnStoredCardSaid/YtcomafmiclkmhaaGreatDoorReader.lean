/-
  READER: the program's byteReader: number, text; it writes its own block alone.
-/
import Derived.Test.YtcomafmiclkmhaaGreatDoorVarint3
import Derived.Test.YtcomafmiclkmhaaGreatDoorDecPLaw
import Derived.Test.YtcomafmiclkmhaaGreatDoorOwn
import Derived.BigQuiet
import Derived.Deep.RegionHeld3
set_option linter.unusedVariables false
set_option linter.unusedSimpArgs false
namespace Go.Proofs.YtcomafmiclkmhaaGreatDoor
open Go.RowKit
/-- a reader's block -/
structure Rd (W : World) (k : Nat) (s : ByteArray) (a : Int) (bad : Bool) : Prop where
  blk : W.heap[k]? = some (.cells #[.string s, .int .i64 a, .bool bad] 52 (0, 0))
theorem Rd.lt {W : World} {k : Nat} {s : ByteArray} {a : Int} {bad : Bool} (h : Rd W k s a bad) : k < W.heap.size := (Array.getElem?_eq_some_iff.1 h.blk).1
theorem Rd.keep {W W' : World} {k : Nat} {s : ByteArray} {a : Int} {bad : Bool} {L : List Nat} (h : Rd W k s a bad) (ho : OnlyS L W W') (hk : k ∉ L) : Rd W' k s a bad := ⟨(ho.block k h.lt hk).trans h.blk⟩
theorem Rd.gro {W W' : World} {k : Nat} {s : ByteArray} {a : Int} {bad : Bool} (h : Rd W k s a bad) (hg : Gro W W') : Rd W' k s a bad := ⟨(hg.block h.lt).trans h.blk⟩
theorem Rd.cells {W : World} {k : Nat} {s : ByteArray} {a : Int} {bad : Bool} (h : Rd W k s a bad) :
    W.cell? ⟨k, 0, none⟩ = some (.string s) ∧ W.cell? ⟨k, 1, none⟩ = some (.int .i64 a) ∧ W.cell? ⟨k, 2, none⟩ = some (.bool bad) ∧ (∀ j, W.frozen? ⟨k, j, none⟩ = false) := by
  have hb := h.blk
  refine ⟨?_, ?_, ?_, fun j => by simp [World.frozen?, hb]⟩
  all_goals
    rw [cell_of_row W k _ _ _ (0, 0) hb]
    rfl
set_option maxRecDepth 100000 in
theorem step_rd {W : World} {k : Nat} {s : ByteArray} {a n : Int} {bad ok : Bool} (h : Rd W k s a bad) (h1 : 0 ≤ a ∧ a ≤ 1099511627776) (h2 : 0 ≤ n ∧ n ≤ 1099511627776) :
    Calls Tryz.prog 35 #[.pointer (some ⟨k, 0, none⟩), .int .i64 n, .bool ok] W fun e W' => e = .returned (.tuple #[]) ∧ Rd W' k s (a + n) (bad || !ok) ∧ OnlyS [k] W W' := by
  obtain ⟨hc0, hc1, hc2, hfz⟩ := h.cells
  have hf1 := hfz 1
  have hf2 := hfz 2
  have hw : IntKind.i64.wrap (a + n) = a + n := IntWalk.i64_in _ ⟨by omega, by omega⟩
  have HB := Lib.hid h.blk
  go_enter Tryz.func35, Tryz.ntmps35
  have h4 : ∀ b : Bool, Rd ((W.setCell ⟨k, 1, none⟩ (.int .i64 (a + n))).setCell ⟨k, 2, none⟩ (.bool b)) k s (a + n) b := fun b => ⟨heap_setCell_at (heap_setCell_at h.blk 1 _) 2 _⟩
  have h5 : ∀ b : Bool, OnlyS [k] W ((W.setCell ⟨k, 1, none⟩ (.int .i64 (a + n))).setCell ⟨k, 2, none⟩ (.bool b)) := fun b => ((OnlyS.refl _ _).setCell (p := ⟨k, 1, none⟩) (by simp) _).setCell (p := ⟨k, 2, none⟩) (by simp) _
  cases bad
  · go_wp2_with (fail)
    exact bodyPost_end (v := .tuple #[]) (by simp [results, Tryz.results35, go_sem]) rfl ⟨rfl, h4 _, h5 _⟩
  · go_wp2_with (fail)
    exact bodyPost_end (v := .tuple #[]) (by simp [results, Tryz.results35, go_sem]) rfl ⟨rfl, h4 _, h5 _⟩
set_option maxRecDepth 100000 in
theorem number_rd {W : World} {k : Nat} {s : ByteArray} {a : Nat} {bad : Bool} (h : Rd W k s a bad) (hs : s.size ≤ 1099511620000) (ha : a ≤ s.size) :
    Calls Tryz.prog 18 #[.pointer (some ⟨k, 0, none⟩)] W fun e W' => e = .returned (.int .i64 ((decV s a).1 : Nat)) ∧ Rd W' k s ((a + (decV s a).2.1 : Nat) : Int) (bad || !(decV s a).2.2) ∧ OnlyS [k] W W' := by
  obtain ⟨hc0, hc1, hc2, hfz⟩ := h.cells
  have hkl := h.lt
  obtain ⟨n, z, ok, hd⟩ : ∃ n z ok, decV s (a : Int) = (n, z, ok) := ⟨_, _, _, rfl⟩
  have hz : z ≤ 1099511620006 := by
    cases ok with
    | true => have := (decV_bd hd).2.2.1; omega
    | false => rw [(decV_zero hd).2]; omega
  rw [hd]
  have HD := Lib.hid hd
  have HR := Lib.hid h
  have hI : I64 (a : Int) := ⟨by omega, by omega⟩
  have hs2 : s.size ≤ 1099511627776 := by omega
  have hab : 0 ≤ (a : Int) ∧ (a : Int) ≤ 1099511627776 := by omega
  have hzb : 0 ≤ (z : Int) ∧ (z : Int) ≤ 1099511627776 := by omega
  clear hd hfz
  go_enter Tryz.func18, Tryz.ntmps18
  go_wp2_with (fail)
  go_region_held3 (fun w' => w'.cell? ⟨k, 0, none⟩ = some (.string s) ∧ w'.cell? ⟨k, 1, none⟩ = some (.int .i64 (a : Int))) ((repeat' apply And.intro) <;> (first | ((repeat (first | assumption | with_reducible refine gro_keeps ?_ _ _ | with_reducible refine alloc_keeps ?_ _ | with_reducible refine drew_keeps ?_)); done) | (simp [go_sem]; done))) (first
    | (go_at_call 34; (with_reducible refine (decV_i s (a : Int) _ hs2 hI).mono ?_); rw [HD.out]; rintro e w1 ⟨rfl, os1, d1, rfl⟩))
  go_wp2_with (fail)
  refine (step_rd (HR.out.gro (Gro.of W os1 d1)) hab hzb).mono ?_
  rintro e w2 ⟨rfl, hr2, ho2⟩
  go_wp2_with (fail)
  go_ret
  exact ⟨rfl, by simpa using hr2, (Gro.only (Gro.of W os1 d1) _).trans ho2⟩
set_option maxRecDepth 100000 in
theorem text_rd {W : World} {k : Nat} {s : ByteArray} {a : Nat} {bad : Bool} (h : Rd W k s a bad) (hs : s.size ≤ 1099511620000) (ha : a ≤ s.size) :
    Calls Tryz.prog 19 #[.pointer (some ⟨k, 0, none⟩)] W fun e W' => e = .returned (.string (unpT s a).1) ∧ Rd W' k s ((a + (unpT s a).2.1 : Nat) : Int) (bad || !(unpT s a).2.2) ∧ OnlyS [k] W W' := by
  obtain ⟨hc0, hc1, hc2, hfz⟩ := h.cells
  have hkl := h.lt
  obtain ⟨n, z, ok, hd⟩ : ∃ n z ok, unpT s (a : Int) = (n, z, ok) := ⟨_, _, _, rfl⟩
  have hz : z ≤ 1099511620006 := by
    cases ok with
    | true => have := (unpT_bd hd).2.1; omega
    | false => rw [unpT_zero hd]; omega
  rw [hd]
  have HD := Lib.hid hd
  have HR := Lib.hid h
  have hI : I64 (a : Int) := ⟨by omega, by omega⟩
  have hs2 : s.size ≤ 1099511627776 := by omega
  have hab : 0 ≤ (a : Int) ∧ (a : Int) ≤ 1099511627776 := by omega
  have hzb : 0 ≤ (z : Int) ∧ (z : Int) ≤ 1099511627776 := by omega
  clear hd hfz
  go_enter Tryz.func19, Tryz.ntmps19
  go_wp2_with (fail)
  go_region_held3 (fun w' => w'.cell? ⟨k, 0, none⟩ = some (.string s) ∧ w'.cell? ⟨k, 1, none⟩ = some (.int .i64 (a : Int))) ((repeat' apply And.intro) <;> (first | ((repeat (first | assumption | with_reducible refine gro_keeps ?_ _ _ | with_reducible refine alloc_keeps ?_ _ | with_reducible refine drew_keeps ?_)); done) | (simp [go_sem]; done))) (first
    | (go_at_call 36; (with_reducible refine (unpT_i s (a : Int) _ hs2 hI).mono ?_); rw [HD.out]; rintro e w1 ⟨rfl, os1, d1, rfl⟩))
  go_wp2_with (fail)
  refine (step_rd (HR.out.gro (Gro.of W os1 d1)) hab hzb).mono ?_
  rintro e w2 ⟨rfl, hr2, ho2⟩
  go_wp2_with (fail)
  go_ret
  exact ⟨rfl, by simpa using hr2, (Gro.only (Gro.of W os1 d1) _).trans ho2⟩
theorem unpT_sz (s : ByteArray) (a : Int) (hs : s.size ≤ 1099511620000) : (unpT s a).1.size ≤ 1099511620000 := by
  obtain ⟨t, z, ok, hu⟩ : ∃ t z ok, unpT s a = (t, z, ok) := ⟨_, _, _, rfl⟩
  have hd : t.size ≤ s.size ∨ t.size = 0 := by
    unfold unpT at hu
    split at hu
    · injection hu with h1 _
      rw [← h1]
      left
      rw [ByteArray.size_extract]
      omega
    · injection hu with h1 _
      rw [← h1]
      right
      rfl
  rw [hu]
  simp only
  omega
end Go.Proofs.YtcomafmiclkmhaaGreatDoor
