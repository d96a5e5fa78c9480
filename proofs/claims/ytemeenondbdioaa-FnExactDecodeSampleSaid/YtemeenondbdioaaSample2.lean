/-
  SAMPLE, PART 2: EncodeSample.
-/
import Derived.Test.YtemeenondbdioaaVarint3
import Derived.Test.YtemeenondbdioaaFnSample
import Derived.Deep.RegionHeld3
set_option linter.unusedVariables false
set_option linter.unusedSimpArgs false
namespace Go.Proofs.Ytemeenondbdioaa
open Go.RowKit
theorem fresh_ints3 {W0 X W : World} {e : TypeId} {a b c : Int} (ha : I64 a) (hb : I64 b) (hc : I64 c) (hg : Gro (X.alloc (.cells #[.int .i64 a, .int .i64 b, .int .i64 c] e)) W) (h0 : Gro W0 X) {g : Nat} (hgX : g = X.heap.size) : Fresh (intT.sl e) W0 W [.slice (some ⟨g, 0, none⟩) 3 3] [a, b, c] := by
  subst hgX
  refine Fresh.gro ⟨[X.heap.size], own_made (xs := [a, b, c]) (heap_alloc_new X _) (show Rows intT _ _ [a, b, c] [] from ⟨[.int .i64 a], [.int .i64 b, .int .i64 c], [], [], rfl, rfl, ⟨rfl, ha.1, ha.2, rfl⟩, ⟨[.int .i64 b], [.int .i64 c], [], [], rfl, rfl, ⟨rfl, hb.1, hb.2, rfl⟩, ⟨[.int .i64 c], [], [], [], rfl, rfl, ⟨rfl, hc.1, hc.2, rfl⟩, rfl, rfl⟩⟩⟩) (by simp), by simp, fun b hb => ?_⟩ hg
  simp at hb
  subst hb
  exact h0.size
theorem packI_size (l : List Int) : (packI l).size ≤ 6 + 6 * l.length := by
  unfold packI
  split
  · rw [size_of, List.length_append]
    have h1 := encV_llen l.length
    have h2 := packL_len l l.length
    rw [List.take_length] at h2
    omega
  · show (#[] : Array UInt8).size ≤ _
    simp
def encS (x : DSample) : ByteArray := if sampleOk x then encV x.Thread ++ packI (x.View.Pc :: x.View.Sp :: x.View.Fp :: x.View.Words) else ⟨#[]⟩
set_option maxRecDepth 100000 in
set_option maxHeartbeats 1000000 in
theorem encS_i {x : DSample} {w : World} {A0 : Option Addr} {c0 : Nat} (p0 : I64 x.Thread) (p1 : I64 x.View.Pc) (p2 : I64 x.View.Sp) (p3 : I64 x.View.Fp) (h1 : (intT.sl 3).R w w.heap.size [.slice A0 x.View.Words.length c0] x.View.Words) (hs : x.View.Words.length ≤ 1099511627000) :
    Calls Try.prog 11 #[.agg #[.int .i64 x.Thread, .int .i64 x.View.Pc, .int .i64 x.View.Sp, .int .i64 x.View.Fp, .slice A0 x.View.Words.length c0]] w fun e w' => e = .returned (.string (encS x)) ∧ Gro w w' := by
  cases hok : sampleOk x
  · have HS := Lib.hid (show encS x = ⟨#[]⟩ from by simp [encS, hok])
    have HO := Lib.hid hok
    clear hok
    go_enter Try.func11, Try.ntmps11
    go_wp2_with (go_at_call 36; (with_reducible refine (sampleOk_i (x := x) (Ty.up _ h1 (by repeat (first | with_reducible exact Gro.refl _ | with_reducible exact Gro.refl_drew _ _ _ | with_reducible exact Gro.refl_drewN _ _ _ _ | assumption | with_reducible apply Gro.more | with_reducible apply Gro.alloc | with_reducible apply Gro.drew | with_reducible apply Gro.drewN))) (by omega)).mono ?_); rw [HO.out]; rintro e w1 ⟨rfl, os1, d1, rfl⟩)
    go_ret
    exact ⟨ret_str HS.out.symm, (by repeat (first | with_reducible exact Gro.refl _ | with_reducible exact Gro.refl_drew _ _ _ | with_reducible exact Gro.refl_drewN _ _ _ _ | assumption | with_reducible apply Gro.more | with_reducible apply Gro.alloc | with_reducible apply Gro.drew | with_reducible apply Gro.drewN))⟩
  · have HS := Lib.hid (show encS x = encV x.Thread ++ packI (x.View.Pc :: x.View.Sp :: x.View.Fp :: x.View.Words) from by simp [encS, hok])
    have HO := Lib.hid hok
    have hz : (encV x.Thread).size + (packI (x.View.Pc :: x.View.Sp :: x.View.Fp :: x.View.Words)).size ≤ 9223372036854775807 := by
      have h1 := encV_size x.Thread
      have h2 := packI_size (x.View.Pc :: x.View.Sp :: x.View.Fp :: x.View.Words)
      simp only [List.length_cons] at h2
      omega
    clear hok
    go_enter Try.func11, Try.ntmps11
    go_wp2_with (go_at_call 36; (with_reducible refine (sampleOk_i (x := x) (Ty.up _ h1 (by repeat (first | with_reducible exact Gro.refl _ | with_reducible exact Gro.refl_drew _ _ _ | with_reducible exact Gro.refl_drewN _ _ _ _ | assumption | with_reducible apply Gro.more | with_reducible apply Gro.alloc | with_reducible apply Gro.drew | with_reducible apply Gro.drewN))) (by omega)).mono ?_); rw [HO.out]; rintro e w1 ⟨rfl, os1, d1, rfl⟩)
    have kadd := fun w => run_string_add_sum (P := Try.prog) w _ _ hz
    go_region_held3 (fun w' => w'.cell? ⟨w.heap.size, 0, none⟩ = some (.int .i64 x.Thread) ∧ w'.cell? ⟨w.heap.size, 1, none⟩ = some (.int .i64 x.View.Pc) ∧ w'.cell? ⟨w.heap.size, 2, none⟩ = some (.int .i64 x.View.Sp) ∧ w'.cell? ⟨w.heap.size, 3, none⟩ = some (.int .i64 x.View.Fp) ∧ w'.cell? ⟨w.heap.size, 4, none⟩ = some (.slice A0 x.View.Words.length c0)) ((repeat' apply And.intro) <;> (first | ((repeat (first | assumption | with_reducible refine gro_keeps ?_ _ _ | with_reducible refine alloc_keeps ?_ _ | with_reducible refine drew_keeps ?_)); done) | (simp [go_sem]; done))) (first
      | (go_at_call 37; refine (encV_i _ _).mono ?_; rintro e w2 ⟨rfl, os2, d2, rfl⟩)
      | (go_at_call 38; refine (packI_i (l := x.View.Pc :: x.View.Sp :: x.View.Fp :: x.View.Words) (Ty.up _ hF3.read (by repeat (first | with_reducible exact Gro.refl _ | with_reducible exact Gro.refl_drew _ _ _ | with_reducible exact Gro.refl_drewN _ _ _ _ | assumption | with_reducible apply Gro.more | with_reducible apply Gro.alloc | with_reducible apply Gro.drew | with_reducible apply Gro.drewN))) (by simp; omega)).mono ?_; rintro e w2 ⟨rfl, os4, d4, rfl⟩)
      | (refine step_append_flat (L := x.View.Words.length + 3) (W0 := w.alloc (.cells #[.int .i64 x.Thread, .int .i64 x.View.Pc, .int .i64 x.View.Sp, .int .i64 x.View.Fp, .slice A0 x.View.Words.length c0] 31)) rfl (.tmp 18) (.tmp 21) elInt flat_int (fresh_ints3 p1 p2 p3 (by repeat (first | with_reducible exact Gro.refl _ | with_reducible exact Gro.refl_drew _ _ _ | with_reducible exact Gro.refl_drewN _ _ _ _ | assumption | with_reducible apply Gro.more | with_reducible apply Gro.alloc | with_reducible apply Gro.drew | with_reducible apply Gro.drewN)) (by repeat (first | with_reducible exact Gro.refl _ | with_reducible exact Gro.refl_drew _ _ _ | with_reducible exact Gro.refl_drewN _ _ _ _ | assumption | with_reducible apply Gro.more | with_reducible apply Gro.alloc | with_reducible apply Gro.drew | with_reducible apply Gro.drewN)) (by simp)) (by repeat (first | with_reducible exact Gro.refl _ | with_reducible exact Gro.refl_drew _ _ _ | with_reducible exact Gro.refl_drewN _ _ _ _ | assumption | with_reducible apply Gro.more | with_reducible apply Gro.alloc | with_reducible apply Gro.drew | with_reducible apply Gro.drewN)) (Ty.up _ h1 (by repeat (first | with_reducible exact Gro.refl _ | with_reducible exact Gro.refl_drew _ _ _ | with_reducible exact Gro.refl_drewN _ _ _ _ | assumption | with_reducible apply Gro.more | with_reducible apply Gro.alloc | with_reducible apply Gro.drew | with_reducible apply Gro.drewN))) rfl rfl rfl (by omega) (by omega) (by omega) ?_; intro B3 c3 os3 d3 hF3))
    all_goals go_wp2
    all_goals go_ret
    all_goals exact ⟨ret_str HS.out.symm, (by repeat (first | with_reducible exact Gro.refl _ | with_reducible exact Gro.refl_drew _ _ _ | with_reducible exact Gro.refl_drewN _ _ _ _ | assumption | with_reducible apply Gro.more | with_reducible apply Gro.alloc | with_reducible apply Gro.drew | with_reducible apply Gro.drewN))⟩
set_option maxRecDepth 100000 in
set_option maxHeartbeats 1000000 in
theorem encS_s {x : DSample} {w : World} {A0 : Option Addr} {c0 : Nat} (p0 : I64 x.Thread) (p1 : I64 x.View.Pc) (p2 : I64 x.View.Sp) (p3 : I64 x.View.Fp) (h1 : (intT.sl 3).R w w.heap.size [.slice A0 x.View.Words.length c0] x.View.Words) (hs : x.View.Words.length ≤ 1099511627000) :
    Calls Try.prog 9 #[.agg #[.int .i64 x.Thread, .int .i64 x.View.Pc, .int .i64 x.View.Sp, .int .i64 x.View.Fp, .slice A0 x.View.Words.length c0]] w fun e w' => e = .returned (.string (encS x)) ∧ Gro w w' := by
  cases hok : sampleOk x
  · have HS := Lib.hid (show encS x = ⟨#[]⟩ from by simp [encS, hok])
    have HO := Lib.hid hok
    clear hok
    go_enter Try.func9, Try.ntmps9
    go_wp2_with (go_at_call 32; (with_reducible refine (sampleOk_s (x := x) (Ty.up _ h1 (by repeat (first | with_reducible exact Gro.refl _ | with_reducible exact Gro.refl_drew _ _ _ | with_reducible exact Gro.refl_drewN _ _ _ _ | assumption | with_reducible apply Gro.more | with_reducible apply Gro.alloc | with_reducible apply Gro.drew | with_reducible apply Gro.drewN))) (by omega)).mono ?_); rw [HO.out]; rintro e w1 ⟨rfl, os1, d1, rfl⟩)
    go_ret
    exact ⟨ret_str HS.out.symm, (by repeat (first | with_reducible exact Gro.refl _ | with_reducible exact Gro.refl_drew _ _ _ | with_reducible exact Gro.refl_drewN _ _ _ _ | assumption | with_reducible apply Gro.more | with_reducible apply Gro.alloc | with_reducible apply Gro.drew | with_reducible apply Gro.drewN))⟩
  · have HS := Lib.hid (show encS x = encV x.Thread ++ packI (x.View.Pc :: x.View.Sp :: x.View.Fp :: x.View.Words) from by simp [encS, hok])
    have HO := Lib.hid hok
    have hz : (encV x.Thread).size + (packI (x.View.Pc :: x.View.Sp :: x.View.Fp :: x.View.Words)).size ≤ 9223372036854775807 := by
      have h1 := encV_size x.Thread
      have h2 := packI_size (x.View.Pc :: x.View.Sp :: x.View.Fp :: x.View.Words)
      simp only [List.length_cons] at h2
      omega
    clear hok
    go_enter Try.func9, Try.ntmps9
    go_wp2_with (go_at_call 32; (with_reducible refine (sampleOk_s (x := x) (Ty.up _ h1 (by repeat (first | with_reducible exact Gro.refl _ | with_reducible exact Gro.refl_drew _ _ _ | with_reducible exact Gro.refl_drewN _ _ _ _ | assumption | with_reducible apply Gro.more | with_reducible apply Gro.alloc | with_reducible apply Gro.drew | with_reducible apply Gro.drewN))) (by omega)).mono ?_); rw [HO.out]; rintro e w1 ⟨rfl, os1, d1, rfl⟩)
    have kadd := fun w => run_string_add_sum (P := Try.prog) w _ _ hz
    go_region_held3 (fun w' => w'.cell? ⟨w.heap.size, 0, none⟩ = some (.int .i64 x.Thread) ∧ w'.cell? ⟨w.heap.size, 1, none⟩ = some (.int .i64 x.View.Pc) ∧ w'.cell? ⟨w.heap.size, 2, none⟩ = some (.int .i64 x.View.Sp) ∧ w'.cell? ⟨w.heap.size, 3, none⟩ = some (.int .i64 x.View.Fp) ∧ w'.cell? ⟨w.heap.size, 4, none⟩ = some (.slice A0 x.View.Words.length c0)) ((repeat' apply And.intro) <;> (first | ((repeat (first | assumption | with_reducible refine gro_keeps ?_ _ _ | with_reducible refine alloc_keeps ?_ _ | with_reducible refine drew_keeps ?_)); done) | (simp [go_sem]; done))) (first
      | (go_at_call 33; refine (encV_s _ _).mono ?_; rintro e w2 ⟨rfl, os2, d2, rfl⟩)
      | (go_at_call 34; refine (packI_s (l := x.View.Pc :: x.View.Sp :: x.View.Fp :: x.View.Words) (Ty.up _ hF3.read (by repeat (first | with_reducible exact Gro.refl _ | with_reducible exact Gro.refl_drew _ _ _ | with_reducible exact Gro.refl_drewN _ _ _ _ | assumption | with_reducible apply Gro.more | with_reducible apply Gro.alloc | with_reducible apply Gro.drew | with_reducible apply Gro.drewN))) (by simp; omega)).mono ?_; rintro e w2 ⟨rfl, os4, d4, rfl⟩)
      | (refine step_append_flat (L := x.View.Words.length + 3) (W0 := w.alloc (.cells #[.int .i64 x.Thread, .int .i64 x.View.Pc, .int .i64 x.View.Sp, .int .i64 x.View.Fp, .slice A0 x.View.Words.length c0] 31)) rfl (.tmp 18) (.tmp 21) elInt flat_int (fresh_ints3 p1 p2 p3 (by repeat (first | with_reducible exact Gro.refl _ | with_reducible exact Gro.refl_drew _ _ _ | with_reducible exact Gro.refl_drewN _ _ _ _ | assumption | with_reducible apply Gro.more | with_reducible apply Gro.alloc | with_reducible apply Gro.drew | with_reducible apply Gro.drewN)) (by repeat (first | with_reducible exact Gro.refl _ | with_reducible exact Gro.refl_drew _ _ _ | with_reducible exact Gro.refl_drewN _ _ _ _ | assumption | with_reducible apply Gro.more | with_reducible apply Gro.alloc | with_reducible apply Gro.drew | with_reducible apply Gro.drewN)) (by simp)) (by repeat (first | with_reducible exact Gro.refl _ | with_reducible exact Gro.refl_drew _ _ _ | with_reducible exact Gro.refl_drewN _ _ _ _ | assumption | with_reducible apply Gro.more | with_reducible apply Gro.alloc | with_reducible apply Gro.drew | with_reducible apply Gro.drewN)) (Ty.up _ h1 (by repeat (first | with_reducible exact Gro.refl _ | with_reducible exact Gro.refl_drew _ _ _ | with_reducible exact Gro.refl_drewN _ _ _ _ | assumption | with_reducible apply Gro.more | with_reducible apply Gro.alloc | with_reducible apply Gro.drew | with_reducible apply Gro.drewN))) rfl rfl rfl (by omega) (by omega) (by omega) ?_; intro B3 c3 os3 d3 hF3))
    all_goals go_wp2
    all_goals go_ret
    all_goals exact ⟨ret_str HS.out.symm, (by repeat (first | with_reducible exact Gro.refl _ | with_reducible exact Gro.refl_drew _ _ _ | with_reducible exact Gro.refl_drewN _ _ _ _ | assumption | with_reducible apply Gro.more | with_reducible apply Gro.alloc | with_reducible apply Gro.drew | with_reducible apply Gro.drewN))⟩
end Go.Proofs.Ytemeenondbdioaa
