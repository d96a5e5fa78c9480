/-
  SAMPLE, PART 6: words for DecodeSample's walks.
-/
import Derived.Test.YtemeenondbdioaaSample3
import Derived.Test.YtemeenondbdioaaBox4
import Derived.Deep.RegionHeld3
set_option linter.unusedVariables false
set_option linter.unusedSimpArgs false
namespace Go.Proofs.Ytemeenondbdioaa
open Go.RowKit
theorem decV_z {s : ByteArray} {a : Int} {t z : Nat} {ok : Bool} (h : decV s a = (t, z, ok)) : z ≤ 6 := by
  cases ok
  · have := decV_zero h; omega
  · have := decV_bd h; omega
theorem unpGo_bd {s : ByteArray} {a : Nat} : ∀ {c z : Nat} {acc l : List Int} {n : Nat}, a + z ≤ s.size → acc.length ≤ z → unpGo s a c z acc = some (l, n) → l.length ≤ n ∧ a + n ≤ s.size := by
  intro c
  induction c with
  | zero => intro z acc l n h1 h2 h; simp [unpGo] at h; obtain ⟨rfl, rfl⟩ := h; omega
  | succ c ih =>
    intro z acc l n h1 h2 h
    obtain ⟨m, t, ok, hm⟩ : ∃ m t ok, decV s ((a : Int) + z) = (m, t, ok) := ⟨_, _, _, rfl⟩
    cases ok
    · rw [unpGo_fail hm] at h; cases h
    · have := decV_bd hm
      rw [unpGo_ok hm] at h
      exact ih (by omega) (by simp; omega) h
theorem unpI_bd {s : ByteArray} {a : Nat} {l : List Int} {n : Nat} {ok : Bool} (h : unpI s a = (l, n, ok)) : l.length ≤ n ∧ n ≤ s.size := by
  unfold unpI at h
  split at h
  · rename_i hok
    obtain ⟨t, z, ok1, hd⟩ : ∃ t z ok, decV s (a : Int) = (t, z, ok) := ⟨_, _, _, rfl⟩
    rw [hd] at h hok
    simp only at h hok
    subst hok
    have hb := decV_bd hd
    cases hg : unpGo s a t z [] with
    | none => rw [hg] at h; simp [unpR] at h; obtain ⟨rfl, rfl, _⟩ := h; simp
    | some p =>
      obtain ⟨l', n'⟩ := p
      rw [hg] at h
      simp [unpR] at h
      obtain ⟨rfl, rfl, _⟩ := h
      have := unpGo_bd (by omega) (by simp) hg
      omega
  · simp at h; obtain ⟨rfl, rfl, _⟩ := h; simp
theorem unpI_len {s : ByteArray} {a : Nat} {l : List Int} {n : Nat} {ok : Bool} (h : unpI s a = (l, n, ok)) : l.length ≤ s.size := by have := unpI_bd h; omega
theorem unpI_n {s : ByteArray} {a : Nat} {l : List Int} {n : Nat} {ok : Bool} (h : unpI s a = (l, n, ok)) : n ≤ 6 + 6 * s.size := by have := unpI_bd h; omega
theorem decV_t {s : ByteArray} {a : Int} {t z : Nat} {ok : Bool} (h : decV s a = (t, z, ok)) : I64 (t : Int) := by
  cases ok
  · have := decV_zero h; exact ⟨by omega, by omega⟩
  · have := decV_bd h; exact ⟨by omega, by omega⟩
theorem sample_of {w W0 W : World} {x : DSample} {A : Option Addr} {c m : Nat} (h0 : I64 x.Thread) (h1 : I64 x.View.Pc) (h2 : I64 x.View.Sp) (h3 : I64 x.View.Fp) (hF : Fre (intT.sl 3) W0 m W [.slice A x.View.Words.length c] x.View.Words) (hw : w.heap.size ≤ W0.heap.size) :
    Fresh tSample w W [.int .i64 x.Thread, .int .i64 x.View.Pc, .int .i64 x.View.Sp, .int .i64 x.View.Fp, .slice A x.View.Words.length c] x :=
  tSample_fresh h0 (tView_fresh h1 h2 h3 hF hw).fre (Nat.le_refl _)
def RetDecS (p : DSample × Bool) (w : World) (e : Ending) (w' : World) : Prop := ∃ A0 c0, e = .returned (.tuple #[.agg #[.int .i64 p.1.Thread, .int .i64 p.1.View.Pc, .int .i64 p.1.View.Sp, .int .i64 p.1.View.Fp, .slice A0 p.1.View.Words.length c0], .bool p.2]) ∧ Fresh tSample w w' [.int .i64 p.1.Thread, .int .i64 p.1.View.Pc, .int .i64 p.1.View.Sp, .int .i64 p.1.View.Fp, .slice A0 p.1.View.Words.length c0] p.1 ∧ Gro w w'
theorem ret_decS {p : DSample × Bool} {x : DSample} {b : Bool} (hx : p = (x, b)) {w w' : World} {A : Option Addr} {c : Nat} (hF : Fresh tSample w w' [.int .i64 x.Thread, .int .i64 x.View.Pc, .int .i64 x.View.Sp, .int .i64 x.View.Fp, .slice A x.View.Words.length c] x) (hG : Gro w w') :
    RetDecS p w (.returned (.tuple #[.agg #[.int .i64 x.Thread, .int .i64 x.View.Pc, .int .i64 x.View.Sp, .int .i64 x.View.Fp, .slice A x.View.Words.length c], .bool b])) w' := by
  subst hx
  exact ⟨A, c, rfl, hF, hG⟩
theorem fresh_zS (W0 W : World) : Fresh tSample W0 W [.int .i64 0, .int .i64 0, .int .i64 0, .int .i64 0, .slice none 0 0] zSample := by
  have hv : Fresh tView W0 W [.int .i64 0, .int .i64 0, .int .i64 0, .slice none 0 0] ⟨0, 0, 0, []⟩ := tView_fresh (x := ⟨0, 0, 0, []⟩) ⟨by simp, by simp⟩ ⟨by simp, by simp⟩ ⟨by simp, by simp⟩ (fre_nil W0 W) (Nat.le_refl _)
  exact tSample_fresh (x := zSample) ⟨by simp [zSample], by simp [zSample]⟩ hv.fre (Nat.le_refl _)
theorem decS_len (s : ByteArray) : (decS s).1.View.Words.length ≤ s.size := by
  unfold decS
  split
  · have h := unpI_len (s := s) (a := (decV s 0).2.1) (l := (unpI s (decV s 0).2.1).1) (n := (unpI s (decV s 0).2.1).2.1) (ok := (unpI s (decV s 0).2.1).2.2) rfl
    show ((unpI s (decV s 0).2.1).1.drop 3).length ≤ _
    rw [List.length_drop]
    omega
  · simp [zSample]
end Go.Proofs.Ytemeenondbdioaa
