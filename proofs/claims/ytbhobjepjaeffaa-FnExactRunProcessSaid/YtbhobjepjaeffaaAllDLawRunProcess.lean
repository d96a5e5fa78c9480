/-
  PART 4 of the texts of this claim, one behind the other: contracts and laws that the last part uses.
-/
import Derived.Test.YtbhobjepjaeffaaAllCLawRunProcess
set_option linter.unusedVariables false
set_option linter.unusedSimpArgs false
namespace Go.Proofs.Ytbhobjepjaeffaa
open Go.RowKit
set_option maxRecDepth 100000 in
set_option maxHeartbeats 2000000 in
theorem perform_i0 {B : List (Nat × Obj)} {Y W : World} {N gc gm : Nat} {m : DMachine} {es : List Int} {A0 A1 A2 : Option Addr} {n0 n1 c0 c1 c2 : Nat} {arg : Int} (h : StI B Y W N gc gm false m) (ha : I64 arg) :
    Calls Try.prog 132 #[.pointer (some ⟨gc, 0, none⟩), .agg #[.slice A0 n0 c0, .slice A1 n1 c1, .slice A2 es.length c2], .agg #[.int .i64 0, .int .i64 arg]] W (ActI (fun m => performM es m 0 arg) B Y N gc gm false m) := by
  have h2 := (h.allocB (cs := #[.slice A0 n0 c0, .slice A1 n1 c1, .slice A2 es.length c2]) (t := 33)).allocB (cs := #[.int .i64 0, .int .i64 arg]) (t := 166)
  have hsub : ∀ p ∈ B, p ∈ ((W.alloc (.cells #[.slice A0 n0 c0, .slice A1 n1 c1, .slice A2 es.length c2] 33)).heap.size, Obj.cells #[.int .i64 0, .int .i64 arg] 166 (0, 0)) :: (W.heap.size, Obj.cells #[.slice A0 n0 c0, .slice A1 n1 c1, .slice A2 es.length c2] 33 (0, 0)) :: B := fun p hp => List.mem_cons_of_mem _ (List.mem_cons_of_mem _ hp)
  go_enter Try.func132, Try.ntmps132
  go_upto_region 1 with (fail)
  rw [World.size_alloc] at h2 hsub
  generalize (W.alloc (.cells #[.slice A0 n0 c0, .slice A1 n1 c1, .slice A2 es.length c2] 33)).alloc (.cells #[.int .i64 0, .int .i64 arg] 166) = W1 at h2 ⊢
  obtain ⟨gs, hgs⟩ : ∃ g, W.heap.size = g := ⟨_, rfl⟩
  rw [hgs] at h2 hsub ⊢
  obtain ⟨BB, hBB⟩ : ∃ X, (gs + 1, Obj.cells #[.int .i64 0, .int .i64 arg] 166 (0, 0)) :: (gs, Obj.cells #[.slice A0 n0 c0, .slice A1 n1 c1, .slice A2 es.length c2] 33 (0, 0)) :: B = X := ⟨_, rfl⟩
  have hop : (gs + 1, Obj.cells #[.int .i64 0, .int .i64 arg] 166 (0, 0)) ∈ BB := by rw [← hBB]; exact List.mem_cons_self
  have hsp : (gs, Obj.cells #[.slice A0 n0 c0, .slice A1 n1 c1, .slice A2 es.length c2] 33 (0, 0)) ∈ BB := by rw [← hBB]; exact List.mem_cons_of_mem _ List.mem_cons_self
  rw [hBB] at h2 hsub
  clear hBB hgs
  have H0 := Lib.hid h2
  have HS := Lib.hid hsub
  clear h h2 hsub
  obtain ⟨A, c, Ao, co, y0, y1, yf, yl, z0, z1, z2, z3, z4, z5, z6, zf, zl, hk⟩ := H0.out.cells
  obtain ⟨p0, p1, pf0, pf1, pl⟩ := box2 (H0.out.kept hop)
  obtain ⟨q0, q1, q2, qf, ql⟩ := row3 (H0.out.kept hsp)
  go_wp2_with (go_at_call 154; (with_reducible refine (push_i H0.out ha).mono ?_); rintro e w1 ⟨rfl, b1, m1, hC1, ho1⟩)
  exact bodyPost_end (v := .tuple #[]) (by simp [results, Try.results132, go_sem]) rfl ⟨rfl, _, _, (hC1).drop HS.out, ho1⟩
set_option maxRecDepth 100000 in
set_option maxHeartbeats 2000000 in
theorem perform_i1 {B : List (Nat × Obj)} {Y W : World} {N gc gm : Nat} {m : DMachine} {es : List Int} {A0 A1 A2 : Option Addr} {n0 n1 c0 c1 c2 : Nat} {arg : Int} (h : StI B Y W N gc gm false m) (ha : -32768 ≤ arg ∧ arg ≤ 32767) :
    Calls Try.prog 132 #[.pointer (some ⟨gc, 0, none⟩), .agg #[.slice A0 n0 c0, .slice A1 n1 c1, .slice A2 es.length c2], .agg #[.int .i64 1, .int .i64 arg]] W (ActI (fun m => performM es m 1 arg) B Y N gc gm false m) := by
  have h2 := (h.allocB (cs := #[.slice A0 n0 c0, .slice A1 n1 c1, .slice A2 es.length c2]) (t := 33)).allocB (cs := #[.int .i64 1, .int .i64 arg]) (t := 166)
  have hsub : ∀ p ∈ B, p ∈ ((W.alloc (.cells #[.slice A0 n0 c0, .slice A1 n1 c1, .slice A2 es.length c2] 33)).heap.size, Obj.cells #[.int .i64 1, .int .i64 arg] 166 (0, 0)) :: (W.heap.size, Obj.cells #[.slice A0 n0 c0, .slice A1 n1 c1, .slice A2 es.length c2] 33 (0, 0)) :: B := fun p hp => List.mem_cons_of_mem _ (List.mem_cons_of_mem _ hp)
  go_enter Try.func132, Try.ntmps132
  go_upto_region 1 with (fail)
  rw [World.size_alloc] at h2 hsub
  generalize (W.alloc (.cells #[.slice A0 n0 c0, .slice A1 n1 c1, .slice A2 es.length c2] 33)).alloc (.cells #[.int .i64 1, .int .i64 arg] 166) = W1 at h2 ⊢
  obtain ⟨gs, hgs⟩ : ∃ g, W.heap.size = g := ⟨_, rfl⟩
  rw [hgs] at h2 hsub ⊢
  obtain ⟨BB, hBB⟩ : ∃ X, (gs + 1, Obj.cells #[.int .i64 1, .int .i64 arg] 166 (0, 0)) :: (gs, Obj.cells #[.slice A0 n0 c0, .slice A1 n1 c1, .slice A2 es.length c2] 33 (0, 0)) :: B = X := ⟨_, rfl⟩
  have hop : (gs + 1, Obj.cells #[.int .i64 1, .int .i64 arg] 166 (0, 0)) ∈ BB := by rw [← hBB]; exact List.mem_cons_self
  have hsp : (gs, Obj.cells #[.slice A0 n0 c0, .slice A1 n1 c1, .slice A2 es.length c2] 33 (0, 0)) ∈ BB := by rw [← hBB]; exact List.mem_cons_of_mem _ List.mem_cons_self
  rw [hBB] at h2 hsub
  clear hBB hgs
  have H0 := Lib.hid h2
  have HS := Lib.hid hsub
  clear h h2 hsub
  obtain ⟨A, c, Ao, co, y0, y1, yf, yl, z0, z1, z2, z3, z4, z5, z6, zf, zl, hk⟩ := H0.out.cells
  obtain ⟨p0, p1, pf0, pf1, pl⟩ := box2 (H0.out.kept hop)
  obtain ⟨q0, q1, q2, qf, ql⟩ := row3 (H0.out.kept hsp)
  have hk0 := hk
  go_upto_region 6 with (fail)
  refine region_tail 8 (by kernel_rfl) (by kernel_rfl) (fun wx hgx => ?_)
  have HX := Lib.hid (H0.out.gro hgx)
  clear y0 y1 yf yl z0 z1 z2 z3 z4 z5 z6 zf zl p0 p1 pf0 pf1 pl q0 q1 q2 qf ql
  obtain ⟨A, c, Ao, co, y0, y1, yf, yl, z0, z1, z2, z3, z4, z5, z6, zf, zl, hk⟩ := HX.out.cells
  obtain ⟨p0, p1, pf0, pf1, pl⟩ := box2 (HX.out.kept hop)
  obtain ⟨q0, q1, q2, qf, ql⟩ := row3 (HX.out.kept hsp)
  simp only [List.take_succ_cons, List.take_zero, List.drop_succ_cons, List.drop_zero]
  repeat still_step
  refine wpStill_nil ?_
  go_wp2_with (go_at_call 155; (with_reducible refine (load_i HX.out).mono ?_); rintro e w1 ⟨rfl, b1, m1, hC1, ho1⟩)
  exact bodyPost_end (v := .tuple #[]) (by simp [results, Try.results132, go_sem]) rfl ⟨rfl, _, _, (hC1).drop HS.out, by rw [ho1]; show (cAt m _).bind _ = _; rw [cAt_wrap hk0.fp ha]; rfl⟩
set_option maxRecDepth 100000 in
set_option maxHeartbeats 2000000 in
theorem perform_i3 {B : List (Nat × Obj)} {Y W : World} {N gc gm : Nat} {m : DMachine} {es : List Int} {A0 A1 A2 : Option Addr} {n0 n1 c0 c1 c2 : Nat} {arg : Int} (h : StI B Y W N gc gm false m) (ha : -32768 ≤ arg ∧ arg ≤ 32767) :
    Calls Try.prog 132 #[.pointer (some ⟨gc, 0, none⟩), .agg #[.slice A0 n0 c0, .slice A1 n1 c1, .slice A2 es.length c2], .agg #[.int .i64 3, .int .i64 arg]] W (ActI (fun m => performM es m 3 arg) B Y N gc gm false m) := by
  have h2 := (h.allocB (cs := #[.slice A0 n0 c0, .slice A1 n1 c1, .slice A2 es.length c2]) (t := 33)).allocB (cs := #[.int .i64 3, .int .i64 arg]) (t := 166)
  have hsub : ∀ p ∈ B, p ∈ ((W.alloc (.cells #[.slice A0 n0 c0, .slice A1 n1 c1, .slice A2 es.length c2] 33)).heap.size, Obj.cells #[.int .i64 3, .int .i64 arg] 166 (0, 0)) :: (W.heap.size, Obj.cells #[.slice A0 n0 c0, .slice A1 n1 c1, .slice A2 es.length c2] 33 (0, 0)) :: B := fun p hp => List.mem_cons_of_mem _ (List.mem_cons_of_mem _ hp)
  go_enter Try.func132, Try.ntmps132
  go_upto_region 1 with (fail)
  rw [World.size_alloc] at h2 hsub
  generalize (W.alloc (.cells #[.slice A0 n0 c0, .slice A1 n1 c1, .slice A2 es.length c2] 33)).alloc (.cells #[.int .i64 3, .int .i64 arg] 166) = W1 at h2 ⊢
  obtain ⟨gs, hgs⟩ : ∃ g, W.heap.size = g := ⟨_, rfl⟩
  rw [hgs] at h2 hsub ⊢
  obtain ⟨BB, hBB⟩ : ∃ X, (gs + 1, Obj.cells #[.int .i64 3, .int .i64 arg] 166 (0, 0)) :: (gs, Obj.cells #[.slice A0 n0 c0, .slice A1 n1 c1, .slice A2 es.length c2] 33 (0, 0)) :: B = X := ⟨_, rfl⟩
  have hop : (gs + 1, Obj.cells #[.int .i64 3, .int .i64 arg] 166 (0, 0)) ∈ BB := by rw [← hBB]; exact List.mem_cons_self
  have hsp : (gs, Obj.cells #[.slice A0 n0 c0, .slice A1 n1 c1, .slice A2 es.length c2] 33 (0, 0)) ∈ BB := by rw [← hBB]; exact List.mem_cons_of_mem _ List.mem_cons_self
  rw [hBB] at h2 hsub
  clear hBB hgs
  have H0 := Lib.hid h2
  have HS := Lib.hid hsub
  clear h h2 hsub
  obtain ⟨A, c, Ao, co, y0, y1, yf, yl, z0, z1, z2, z3, z4, z5, z6, zf, zl, hk⟩ := H0.out.cells
  obtain ⟨p0, p1, pf0, pf1, pl⟩ := box2 (H0.out.kept hop)
  obtain ⟨q0, q1, q2, qf, ql⟩ := row3 (H0.out.kept hsp)
  have hk0 := hk
  go_upto_region 8 with (fail)
  refine region_tail 8 (by kernel_rfl) (by kernel_rfl) (fun wx hgx => ?_)
  have HX := Lib.hid (H0.out.gro hgx)
  clear y0 y1 yf yl z0 z1 z2 z3 z4 z5 z6 zf zl p0 p1 pf0 pf1 pl q0 q1 q2 qf ql
  obtain ⟨A, c, Ao, co, y0, y1, yf, yl, z0, z1, z2, z3, z4, z5, z6, zf, zl, hk⟩ := HX.out.cells
  obtain ⟨p0, p1, pf0, pf1, pl⟩ := box2 (HX.out.kept hop)
  obtain ⟨q0, q1, q2, qf, ql⟩ := row3 (HX.out.kept hsp)
  simp only [List.take_succ_cons, List.take_zero, List.drop_succ_cons, List.drop_zero]
  repeat still_step
  refine wpStill_nil ?_
  go_wp2_with (go_at_call 155; (with_reducible refine (load_i HX.out).mono ?_); rintro e w1 ⟨rfl, b1, m1, hC1, ho1⟩)
  exact bodyPost_end (v := .tuple #[]) (by simp [results, Try.results132, go_sem]) rfl ⟨rfl, _, _, (hC1).drop HS.out, by rw [ho1]; show (cAt m _).bind _ = _; rw [cAt_wrap hk0.sp ha]; rfl⟩
set_option maxRecDepth 100000 in
set_option maxHeartbeats 2000000 in
theorem perform_i2 {B : List (Nat × Obj)} {Y W : World} {N gc gm : Nat} {m : DMachine} {es : List Int} {A0 A1 A2 : Option Addr} {n0 n1 c0 c1 c2 : Nat} {arg : Int} (h : StI B Y W N gc gm false m) (ha : -32768 ≤ arg ∧ arg ≤ 32767) :
    Calls Try.prog 132 #[.pointer (some ⟨gc, 0, none⟩), .agg #[.slice A0 n0 c0, .slice A1 n1 c1, .slice A2 es.length c2], .agg #[.int .i64 2, .int .i64 arg]] W (ActI (fun m => performM es m 2 arg) B Y N gc gm false m) := by
  have h2 := (h.allocB (cs := #[.slice A0 n0 c0, .slice A1 n1 c1, .slice A2 es.length c2]) (t := 33)).allocB (cs := #[.int .i64 2, .int .i64 arg]) (t := 166)
  have hsub : ∀ p ∈ B, p ∈ ((W.alloc (.cells #[.slice A0 n0 c0, .slice A1 n1 c1, .slice A2 es.length c2] 33)).heap.size, Obj.cells #[.int .i64 2, .int .i64 arg] 166 (0, 0)) :: (W.heap.size, Obj.cells #[.slice A0 n0 c0, .slice A1 n1 c1, .slice A2 es.length c2] 33 (0, 0)) :: B := fun p hp => List.mem_cons_of_mem _ (List.mem_cons_of_mem _ hp)
  go_enter Try.func132, Try.ntmps132
  go_upto_region 1 with (fail)
  rw [World.size_alloc] at h2 hsub
  generalize (W.alloc (.cells #[.slice A0 n0 c0, .slice A1 n1 c1, .slice A2 es.length c2] 33)).alloc (.cells #[.int .i64 2, .int .i64 arg] 166) = W1 at h2 ⊢
  obtain ⟨gs, hgs⟩ : ∃ g, W.heap.size = g := ⟨_, rfl⟩
  rw [hgs] at h2 hsub ⊢
  obtain ⟨BB, hBB⟩ : ∃ X, (gs + 1, Obj.cells #[.int .i64 2, .int .i64 arg] 166 (0, 0)) :: (gs, Obj.cells #[.slice A0 n0 c0, .slice A1 n1 c1, .slice A2 es.length c2] 33 (0, 0)) :: B = X := ⟨_, rfl⟩
  have hop : (gs + 1, Obj.cells #[.int .i64 2, .int .i64 arg] 166 (0, 0)) ∈ BB := by rw [← hBB]; exact List.mem_cons_self
  have hsp : (gs, Obj.cells #[.slice A0 n0 c0, .slice A1 n1 c1, .slice A2 es.length c2] 33 (0, 0)) ∈ BB := by rw [← hBB]; exact List.mem_cons_of_mem _ List.mem_cons_self
  rw [hBB] at h2 hsub
  clear hBB hgs
  have H0 := Lib.hid h2
  have HS := Lib.hid hsub
  clear h h2 hsub
  obtain ⟨A, c, Ao, co, y0, y1, yf, yl, z0, z1, z2, z3, z4, z5, z6, zf, zl, hk⟩ := H0.out.cells
  obtain ⟨p0, p1, pf0, pf1, pl⟩ := box2 (H0.out.kept hop)
  obtain ⟨q0, q1, q2, qf, ql⟩ := row3 (H0.out.kept hsp)
  have hk0 := hk
  go_upto_region 10 with (fail)
  refine region_tail 8 (by kernel_rfl) (by kernel_rfl) (fun wx hgx => ?_)
  have HX := Lib.hid (H0.out.gro hgx)
  clear y0 y1 yf yl z0 z1 z2 z3 z4 z5 z6 zf zl p0 p1 pf0 pf1 pl q0 q1 q2 qf ql
  obtain ⟨A, c, Ao, co, y0, y1, yf, yl, z0, z1, z2, z3, z4, z5, z6, zf, zl, hk⟩ := HX.out.cells
  obtain ⟨p0, p1, pf0, pf1, pl⟩ := box2 (HX.out.kept hop)
  obtain ⟨q0, q1, q2, qf, ql⟩ := row3 (HX.out.kept hsp)
  simp only [List.take_succ_cons, List.take_zero, List.drop_succ_cons, List.drop_zero]
  repeat still_step
  refine wpStill_nil ?_
  go_wp2_with (go_at_call 156; (with_reducible refine (store_i HX.out).mono ?_); rintro e w1 ⟨rfl, b1, m1, hC1, ho1⟩)
  exact bodyPost_end (v := .tuple #[]) (by simp [results, Try.results132, go_sem]) rfl ⟨rfl, _, _, (hC1).drop HS.out, by rw [ho1]; show (cPop m).bind _ = _; simp only [cPut_wrap hk0.fp ha]; rfl⟩
set_option maxRecDepth 100000 in
set_option maxHeartbeats 2000000 in
theorem perform_i4 {B : List (Nat × Obj)} {Y W : World} {N gc gm : Nat} {m : DMachine} {es : List Int} {A0 A1 A2 : Option Addr} {n0 n1 c0 c1 c2 : Nat} {arg : Int} (h : StI B Y W N gc gm false m) (ha : -32768 ≤ arg ∧ arg ≤ 32767) :
    Calls Try.prog 132 #[.pointer (some ⟨gc, 0, none⟩), .agg #[.slice A0 n0 c0, .slice A1 n1 c1, .slice A2 es.length c2], .agg #[.int .i64 4, .int .i64 arg]] W (ActI (fun m => performM es m 4 arg) B Y N gc gm false m) := by
  have h2 := (h.allocB (cs := #[.slice A0 n0 c0, .slice A1 n1 c1, .slice A2 es.length c2]) (t := 33)).allocB (cs := #[.int .i64 4, .int .i64 arg]) (t := 166)
  have hsub : ∀ p ∈ B, p ∈ ((W.alloc (.cells #[.slice A0 n0 c0, .slice A1 n1 c1, .slice A2 es.length c2] 33)).heap.size, Obj.cells #[.int .i64 4, .int .i64 arg] 166 (0, 0)) :: (W.heap.size, Obj.cells #[.slice A0 n0 c0, .slice A1 n1 c1, .slice A2 es.length c2] 33 (0, 0)) :: B := fun p hp => List.mem_cons_of_mem _ (List.mem_cons_of_mem _ hp)
  go_enter Try.func132, Try.ntmps132
  go_upto_region 1 with (fail)
  rw [World.size_alloc] at h2 hsub
  generalize (W.alloc (.cells #[.slice A0 n0 c0, .slice A1 n1 c1, .slice A2 es.length c2] 33)).alloc (.cells #[.int .i64 4, .int .i64 arg] 166) = W1 at h2 ⊢
  obtain ⟨gs, hgs⟩ : ∃ g, W.heap.size = g := ⟨_, rfl⟩
  rw [hgs] at h2 hsub ⊢
  obtain ⟨BB, hBB⟩ : ∃ X, (gs + 1, Obj.cells #[.int .i64 4, .int .i64 arg] 166 (0, 0)) :: (gs, Obj.cells #[.slice A0 n0 c0, .slice A1 n1 c1, .slice A2 es.length c2] 33 (0, 0)) :: B = X := ⟨_, rfl⟩
  have hop : (gs + 1, Obj.cells #[.int .i64 4, .int .i64 arg] 166 (0, 0)) ∈ BB := by rw [← hBB]; exact List.mem_cons_self
  have hsp : (gs, Obj.cells #[.slice A0 n0 c0, .slice A1 n1 c1, .slice A2 es.length c2] 33 (0, 0)) ∈ BB := by rw [← hBB]; exact List.mem_cons_of_mem _ List.mem_cons_self
  rw [hBB] at h2 hsub
  clear hBB hgs
  have H0 := Lib.hid h2
  have HS := Lib.hid hsub
  clear h h2 hsub
  obtain ⟨A, c, Ao, co, y0, y1, yf, yl, z0, z1, z2, z3, z4, z5, z6, zf, zl, hk⟩ := H0.out.cells
  obtain ⟨p0, p1, pf0, pf1, pl⟩ := box2 (H0.out.kept hop)
  obtain ⟨q0, q1, q2, qf, ql⟩ := row3 (H0.out.kept hsp)
  have hk0 := hk
  go_upto_region 12 with (fail)
  refine region_tail 8 (by kernel_rfl) (by kernel_rfl) (fun wx hgx => ?_)
  have HX := Lib.hid (H0.out.gro hgx)
  clear y0 y1 yf yl z0 z1 z2 z3 z4 z5 z6 zf zl p0 p1 pf0 pf1 pl q0 q1 q2 qf ql
  obtain ⟨A, c, Ao, co, y0, y1, yf, yl, z0, z1, z2, z3, z4, z5, z6, zf, zl, hk⟩ := HX.out.cells
  obtain ⟨p0, p1, pf0, pf1, pl⟩ := box2 (HX.out.kept hop)
  obtain ⟨q0, q1, q2, qf, ql⟩ := row3 (HX.out.kept hsp)
  simp only [List.take_succ_cons, List.take_zero, List.drop_succ_cons, List.drop_zero]
  repeat still_step
  refine wpStill_nil ?_
  go_wp2_with (go_at_call 156; (with_reducible refine (store_i HX.out).mono ?_); rintro e w1 ⟨rfl, b1, m1, hC1, ho1⟩)
  exact bodyPost_end (v := .tuple #[]) (by simp [results, Try.results132, go_sem]) rfl ⟨rfl, _, _, (hC1).drop HS.out, by rw [ho1]; show (cPop m).bind _ = _; simp only [cPut_wrap hk0.sp ha]; rfl⟩
set_option maxRecDepth 100000 in
set_option maxHeartbeats 2000000 in
theorem perform_i5 {B : List (Nat × Obj)} {Y W : World} {N gc gm : Nat} {m : DMachine} {es : List Int} {A0 A1 A2 : Option Addr} {n0 n1 c0 c1 c2 : Nat} {arg : Int} (h : StI B Y W N gc gm false m)  :
    Calls Try.prog 132 #[.pointer (some ⟨gc, 0, none⟩), .agg #[.slice A0 n0 c0, .slice A1 n1 c1, .slice A2 es.length c2], .agg #[.int .i64 5, .int .i64 arg]] W (ActI (fun m => performM es m 5 arg) B Y N gc gm false m) := by
  have h2 := (h.allocB (cs := #[.slice A0 n0 c0, .slice A1 n1 c1, .slice A2 es.length c2]) (t := 33)).allocB (cs := #[.int .i64 5, .int .i64 arg]) (t := 166)
  have hsub : ∀ p ∈ B, p ∈ ((W.alloc (.cells #[.slice A0 n0 c0, .slice A1 n1 c1, .slice A2 es.length c2] 33)).heap.size, Obj.cells #[.int .i64 5, .int .i64 arg] 166 (0, 0)) :: (W.heap.size, Obj.cells #[.slice A0 n0 c0, .slice A1 n1 c1, .slice A2 es.length c2] 33 (0, 0)) :: B := fun p hp => List.mem_cons_of_mem _ (List.mem_cons_of_mem _ hp)
  go_enter Try.func132, Try.ntmps132
  go_upto_region 1 with (fail)
  rw [World.size_alloc] at h2 hsub
  generalize (W.alloc (.cells #[.slice A0 n0 c0, .slice A1 n1 c1, .slice A2 es.length c2] 33)).alloc (.cells #[.int .i64 5, .int .i64 arg] 166) = W1 at h2 ⊢
  obtain ⟨gs, hgs⟩ : ∃ g, W.heap.size = g := ⟨_, rfl⟩
  rw [hgs] at h2 hsub ⊢
  obtain ⟨BB, hBB⟩ : ∃ X, (gs + 1, Obj.cells #[.int .i64 5, .int .i64 arg] 166 (0, 0)) :: (gs, Obj.cells #[.slice A0 n0 c0, .slice A1 n1 c1, .slice A2 es.length c2] 33 (0, 0)) :: B = X := ⟨_, rfl⟩
  have hop : (gs + 1, Obj.cells #[.int .i64 5, .int .i64 arg] 166 (0, 0)) ∈ BB := by rw [← hBB]; exact List.mem_cons_self
  have hsp : (gs, Obj.cells #[.slice A0 n0 c0, .slice A1 n1 c1, .slice A2 es.length c2] 33 (0, 0)) ∈ BB := by rw [← hBB]; exact List.mem_cons_of_mem _ List.mem_cons_self
  rw [hBB] at h2 hsub
  clear hBB hgs
  have H0 := Lib.hid h2
  have HS := Lib.hid hsub
  clear h h2 hsub
  obtain ⟨A, c, Ao, co, y0, y1, yf, yl, z0, z1, z2, z3, z4, z5, z6, zf, zl, hk⟩ := H0.out.cells
  obtain ⟨p0, p1, pf0, pf1, pl⟩ := box2 (H0.out.kept hop)
  obtain ⟨q0, q1, q2, qf, ql⟩ := row3 (H0.out.kept hsp)
  go_upto_region 19 with (go_at_call 157; (with_reducible refine (pop_i H0.out).mono ?_); rintro e w1 ⟨v1, b1, m1, hv1, rfl, hC1, ho1⟩)
  have H1 := Lib.hid hC1
  clear hC1
  clear y0 y1 yf yl z0 z1 z2 z3 z4 z5 z6 zf zl p0 p1 pf0 pf1 pl q0 q1 q2 qf ql
  obtain ⟨A, c, Ao, co, y0, y1, yf, yl, z0, z1, z2, z3, z4, z5, z6, zf, zl, hk⟩ := H1.out.cells
  obtain ⟨p0, p1, pf0, pf1, pl⟩ := box2 (H1.out.kept hop)
  obtain ⟨q0, q1, q2, qf, ql⟩ := row3 (H1.out.kept hsp)
  go_upto_region 20 with (go_at_call 157; (with_reducible refine (pop_i H1.out).mono ?_); rintro e w2 ⟨v2, b2, m2, hv2, rfl, hC2, ho2⟩)
  have H2 := Lib.hid hC2
  clear hC2
  clear y0 y1 yf yl z0 z1 z2 z3 z4 z5 z6 zf zl p0 p1 pf0 pf1 pl q0 q1 q2 qf ql
  obtain ⟨A, c, Ao, co, y0, y1, yf, yl, z0, z1, z2, z3, z4, z5, z6, zf, zl, hk⟩ := H2.out.cells
  obtain ⟨p0, p1, pf0, pf1, pl⟩ := box2 (H2.out.kept hop)
  obtain ⟨q0, q1, q2, qf, ql⟩ := row3 (H2.out.kept hsp)
  go_wp2_with (first | (go_at_call 158; (with_reducible refine (applyC_i (k := 2) (a := v2) (b := v1) (by omega) hv2 hv1).mono ?_); rintro e w3 ⟨rfl, rfl⟩) | (go_at_call 154; (with_reducible refine (push_i H2.out (applyC_bd 5 v2 v1)).mono ?_); rintro e w4 ⟨rfl, b4, m4, hC4, ho4⟩))
  exact bodyPost_end (v := .tuple #[]) (by simp [results, Try.results132, go_sem]) rfl ⟨rfl, _, _, (hC4).drop HS.out, by rw [pmA_f (by omega), cPop_opt (K := fun p => (cPop p.1).bind fun q => cPush q.1 (applyC 5 q.2 p.2)) ho1, cPop_opt (K := fun q => cPush q.1 (applyC 5 q.2 v1)) ho2]; exact ho4⟩
set_option maxRecDepth 100000 in
set_option maxHeartbeats 2000000 in
theorem perform_i6 {B : List (Nat × Obj)} {Y W : World} {N gc gm : Nat} {m : DMachine} {es : List Int} {A0 A1 A2 : Option Addr} {n0 n1 c0 c1 c2 : Nat} {arg : Int} (h : StI B Y W N gc gm false m)  :
    Calls Try.prog 132 #[.pointer (some ⟨gc, 0, none⟩), .agg #[.slice A0 n0 c0, .slice A1 n1 c1, .slice A2 es.length c2], .agg #[.int .i64 6, .int .i64 arg]] W (ActI (fun m => performM es m 6 arg) B Y N gc gm false m) := by
  have h2 := (h.allocB (cs := #[.slice A0 n0 c0, .slice A1 n1 c1, .slice A2 es.length c2]) (t := 33)).allocB (cs := #[.int .i64 6, .int .i64 arg]) (t := 166)
  have hsub : ∀ p ∈ B, p ∈ ((W.alloc (.cells #[.slice A0 n0 c0, .slice A1 n1 c1, .slice A2 es.length c2] 33)).heap.size, Obj.cells #[.int .i64 6, .int .i64 arg] 166 (0, 0)) :: (W.heap.size, Obj.cells #[.slice A0 n0 c0, .slice A1 n1 c1, .slice A2 es.length c2] 33 (0, 0)) :: B := fun p hp => List.mem_cons_of_mem _ (List.mem_cons_of_mem _ hp)
  go_enter Try.func132, Try.ntmps132
  go_upto_region 1 with (fail)
  rw [World.size_alloc] at h2 hsub
  generalize (W.alloc (.cells #[.slice A0 n0 c0, .slice A1 n1 c1, .slice A2 es.length c2] 33)).alloc (.cells #[.int .i64 6, .int .i64 arg] 166) = W1 at h2 ⊢
  obtain ⟨gs, hgs⟩ : ∃ g, W.heap.size = g := ⟨_, rfl⟩
  rw [hgs] at h2 hsub ⊢
  obtain ⟨BB, hBB⟩ : ∃ X, (gs + 1, Obj.cells #[.int .i64 6, .int .i64 arg] 166 (0, 0)) :: (gs, Obj.cells #[.slice A0 n0 c0, .slice A1 n1 c1, .slice A2 es.length c2] 33 (0, 0)) :: B = X := ⟨_, rfl⟩
  have hop : (gs + 1, Obj.cells #[.int .i64 6, .int .i64 arg] 166 (0, 0)) ∈ BB := by rw [← hBB]; exact List.mem_cons_self
  have hsp : (gs, Obj.cells #[.slice A0 n0 c0, .slice A1 n1 c1, .slice A2 es.length c2] 33 (0, 0)) ∈ BB := by rw [← hBB]; exact List.mem_cons_of_mem _ List.mem_cons_self
  rw [hBB] at h2 hsub
  clear hBB hgs
  have H0 := Lib.hid h2
  have HS := Lib.hid hsub
  clear h h2 hsub
  obtain ⟨A, c, Ao, co, y0, y1, yf, yl, z0, z1, z2, z3, z4, z5, z6, zf, zl, hk⟩ := H0.out.cells
  obtain ⟨p0, p1, pf0, pf1, pl⟩ := box2 (H0.out.kept hop)
  obtain ⟨q0, q1, q2, qf, ql⟩ := row3 (H0.out.kept hsp)
  go_upto_region 19 with (go_at_call 157; (with_reducible refine (pop_i H0.out).mono ?_); rintro e w1 ⟨v1, b1, m1, hv1, rfl, hC1, ho1⟩)
  have H1 := Lib.hid hC1
  clear hC1
  clear y0 y1 yf yl z0 z1 z2 z3 z4 z5 z6 zf zl p0 p1 pf0 pf1 pl q0 q1 q2 qf ql
  obtain ⟨A, c, Ao, co, y0, y1, yf, yl, z0, z1, z2, z3, z4, z5, z6, zf, zl, hk⟩ := H1.out.cells
  obtain ⟨p0, p1, pf0, pf1, pl⟩ := box2 (H1.out.kept hop)
  obtain ⟨q0, q1, q2, qf, ql⟩ := row3 (H1.out.kept hsp)
  go_upto_region 20 with (go_at_call 157; (with_reducible refine (pop_i H1.out).mono ?_); rintro e w2 ⟨v2, b2, m2, hv2, rfl, hC2, ho2⟩)
  have H2 := Lib.hid hC2
  clear hC2
  clear y0 y1 yf yl z0 z1 z2 z3 z4 z5 z6 zf zl p0 p1 pf0 pf1 pl q0 q1 q2 qf ql
  obtain ⟨A, c, Ao, co, y0, y1, yf, yl, z0, z1, z2, z3, z4, z5, z6, zf, zl, hk⟩ := H2.out.cells
  obtain ⟨p0, p1, pf0, pf1, pl⟩ := box2 (H2.out.kept hop)
  obtain ⟨q0, q1, q2, qf, ql⟩ := row3 (H2.out.kept hsp)
  go_wp2_with (first | (go_at_call 158; (with_reducible refine (applyC_i (k := 3) (a := v2) (b := v1) (by omega) hv2 hv1).mono ?_); rintro e w3 ⟨rfl, rfl⟩) | (go_at_call 154; (with_reducible refine (push_i H2.out (applyC_bd 6 v2 v1)).mono ?_); rintro e w4 ⟨rfl, b4, m4, hC4, ho4⟩))
  exact bodyPost_end (v := .tuple #[]) (by simp [results, Try.results132, go_sem]) rfl ⟨rfl, _, _, (hC4).drop HS.out, by rw [pmA_f (by omega), cPop_opt (K := fun p => (cPop p.1).bind fun q => cPush q.1 (applyC 6 q.2 p.2)) ho1, cPop_opt (K := fun q => cPush q.1 (applyC 6 q.2 v1)) ho2]; exact ho4⟩
set_option maxRecDepth 100000 in
set_option maxHeartbeats 2000000 in
theorem perform_i7 {B : List (Nat × Obj)} {Y W : World} {N gc gm : Nat} {m : DMachine} {es : List Int} {A0 A1 A2 : Option Addr} {n0 n1 c0 c1 c2 : Nat} {arg : Int} (h : StI B Y W N gc gm false m)  :
    Calls Try.prog 132 #[.pointer (some ⟨gc, 0, none⟩), .agg #[.slice A0 n0 c0, .slice A1 n1 c1, .slice A2 es.length c2], .agg #[.int .i64 7, .int .i64 arg]] W (ActI (fun m => performM es m 7 arg) B Y N gc gm false m) := by
  have h2 := (h.allocB (cs := #[.slice A0 n0 c0, .slice A1 n1 c1, .slice A2 es.length c2]) (t := 33)).allocB (cs := #[.int .i64 7, .int .i64 arg]) (t := 166)
  have hsub : ∀ p ∈ B, p ∈ ((W.alloc (.cells #[.slice A0 n0 c0, .slice A1 n1 c1, .slice A2 es.length c2] 33)).heap.size, Obj.cells #[.int .i64 7, .int .i64 arg] 166 (0, 0)) :: (W.heap.size, Obj.cells #[.slice A0 n0 c0, .slice A1 n1 c1, .slice A2 es.length c2] 33 (0, 0)) :: B := fun p hp => List.mem_cons_of_mem _ (List.mem_cons_of_mem _ hp)
  go_enter Try.func132, Try.ntmps132
  go_upto_region 1 with (fail)
  rw [World.size_alloc] at h2 hsub
  generalize (W.alloc (.cells #[.slice A0 n0 c0, .slice A1 n1 c1, .slice A2 es.length c2] 33)).alloc (.cells #[.int .i64 7, .int .i64 arg] 166) = W1 at h2 ⊢
  obtain ⟨gs, hgs⟩ : ∃ g, W.heap.size = g := ⟨_, rfl⟩
  rw [hgs] at h2 hsub ⊢
  obtain ⟨BB, hBB⟩ : ∃ X, (gs + 1, Obj.cells #[.int .i64 7, .int .i64 arg] 166 (0, 0)) :: (gs, Obj.cells #[.slice A0 n0 c0, .slice A1 n1 c1, .slice A2 es.length c2] 33 (0, 0)) :: B = X := ⟨_, rfl⟩
  have hop : (gs + 1, Obj.cells #[.int .i64 7, .int .i64 arg] 166 (0, 0)) ∈ BB := by rw [← hBB]; exact List.mem_cons_self
  have hsp : (gs, Obj.cells #[.slice A0 n0 c0, .slice A1 n1 c1, .slice A2 es.length c2] 33 (0, 0)) ∈ BB := by rw [← hBB]; exact List.mem_cons_of_mem _ List.mem_cons_self
  rw [hBB] at h2 hsub
  clear hBB hgs
  have H0 := Lib.hid h2
  have HS := Lib.hid hsub
  clear h h2 hsub
  obtain ⟨A, c, Ao, co, y0, y1, yf, yl, z0, z1, z2, z3, z4, z5, z6, zf, zl, hk⟩ := H0.out.cells
  obtain ⟨p0, p1, pf0, pf1, pl⟩ := box2 (H0.out.kept hop)
  obtain ⟨q0, q1, q2, qf, ql⟩ := row3 (H0.out.kept hsp)
  go_upto_region 19 with (go_at_call 157; (with_reducible refine (pop_i H0.out).mono ?_); rintro e w1 ⟨v1, b1, m1, hv1, rfl, hC1, ho1⟩)
  have H1 := Lib.hid hC1
  clear hC1
  clear y0 y1 yf yl z0 z1 z2 z3 z4 z5 z6 zf zl p0 p1 pf0 pf1 pl q0 q1 q2 qf ql
  obtain ⟨A, c, Ao, co, y0, y1, yf, yl, z0, z1, z2, z3, z4, z5, z6, zf, zl, hk⟩ := H1.out.cells
  obtain ⟨p0, p1, pf0, pf1, pl⟩ := box2 (H1.out.kept hop)
  obtain ⟨q0, q1, q2, qf, ql⟩ := row3 (H1.out.kept hsp)
  go_upto_region 20 with (go_at_call 157; (with_reducible refine (pop_i H1.out).mono ?_); rintro e w2 ⟨v2, b2, m2, hv2, rfl, hC2, ho2⟩)
  have H2 := Lib.hid hC2
  clear hC2
  clear y0 y1 yf yl z0 z1 z2 z3 z4 z5 z6 zf zl p0 p1 pf0 pf1 pl q0 q1 q2 qf ql
  obtain ⟨A, c, Ao, co, y0, y1, yf, yl, z0, z1, z2, z3, z4, z5, z6, zf, zl, hk⟩ := H2.out.cells
  obtain ⟨p0, p1, pf0, pf1, pl⟩ := box2 (H2.out.kept hop)
  obtain ⟨q0, q1, q2, qf, ql⟩ := row3 (H2.out.kept hsp)
  go_wp2_with (first | (go_at_call 158; (with_reducible refine (applyC_i (k := 4) (a := v2) (b := v1) (by omega) hv2 hv1).mono ?_); rintro e w3 ⟨rfl, rfl⟩) | (go_at_call 154; (with_reducible refine (push_i H2.out (applyC_bd 7 v2 v1)).mono ?_); rintro e w4 ⟨rfl, b4, m4, hC4, ho4⟩))
  exact bodyPost_end (v := .tuple #[]) (by simp [results, Try.results132, go_sem]) rfl ⟨rfl, _, _, (hC4).drop HS.out, by rw [pmA_f (by omega), cPop_opt (K := fun p => (cPop p.1).bind fun q => cPush q.1 (applyC 7 q.2 p.2)) ho1, cPop_opt (K := fun q => cPush q.1 (applyC 7 q.2 v1)) ho2]; exact ho4⟩
set_option maxRecDepth 100000 in
set_option maxHeartbeats 2000000 in
theorem perform_i8 {B : List (Nat × Obj)} {Y W : World} {N gc gm : Nat} {m : DMachine} {es : List Int} {A0 A1 A2 : Option Addr} {n0 n1 c0 c1 c2 : Nat} {arg : Int} (h : StI B Y W N gc gm false m)  :
    Calls Try.prog 132 #[.pointer (some ⟨gc, 0, none⟩), .agg #[.slice A0 n0 c0, .slice A1 n1 c1, .slice A2 es.length c2], .agg #[.int .i64 8, .int .i64 arg]] W (ActI (fun m => performM es m 8 arg) B Y N gc gm false m) := by
  have h2 := (h.allocB (cs := #[.slice A0 n0 c0, .slice A1 n1 c1, .slice A2 es.length c2]) (t := 33)).allocB (cs := #[.int .i64 8, .int .i64 arg]) (t := 166)
  have hsub : ∀ p ∈ B, p ∈ ((W.alloc (.cells #[.slice A0 n0 c0, .slice A1 n1 c1, .slice A2 es.length c2] 33)).heap.size, Obj.cells #[.int .i64 8, .int .i64 arg] 166 (0, 0)) :: (W.heap.size, Obj.cells #[.slice A0 n0 c0, .slice A1 n1 c1, .slice A2 es.length c2] 33 (0, 0)) :: B := fun p hp => List.mem_cons_of_mem _ (List.mem_cons_of_mem _ hp)
  go_enter Try.func132, Try.ntmps132
  go_upto_region 1 with (fail)
  rw [World.size_alloc] at h2 hsub
  generalize (W.alloc (.cells #[.slice A0 n0 c0, .slice A1 n1 c1, .slice A2 es.length c2] 33)).alloc (.cells #[.int .i64 8, .int .i64 arg] 166) = W1 at h2 ⊢
  obtain ⟨gs, hgs⟩ : ∃ g, W.heap.size = g := ⟨_, rfl⟩
  rw [hgs] at h2 hsub ⊢
  obtain ⟨BB, hBB⟩ : ∃ X, (gs + 1, Obj.cells #[.int .i64 8, .int .i64 arg] 166 (0, 0)) :: (gs, Obj.cells #[.slice A0 n0 c0, .slice A1 n1 c1, .slice A2 es.length c2] 33 (0, 0)) :: B = X := ⟨_, rfl⟩
  have hop : (gs + 1, Obj.cells #[.int .i64 8, .int .i64 arg] 166 (0, 0)) ∈ BB := by rw [← hBB]; exact List.mem_cons_self
  have hsp : (gs, Obj.cells #[.slice A0 n0 c0, .slice A1 n1 c1, .slice A2 es.length c2] 33 (0, 0)) ∈ BB := by rw [← hBB]; exact List.mem_cons_of_mem _ List.mem_cons_self
  rw [hBB] at h2 hsub
  clear hBB hgs
  have H0 := Lib.hid h2
  have HS := Lib.hid hsub
  clear h h2 hsub
  obtain ⟨A, c, Ao, co, y0, y1, yf, yl, z0, z1, z2, z3, z4, z5, z6, zf, zl, hk⟩ := H0.out.cells
  obtain ⟨p0, p1, pf0, pf1, pl⟩ := box2 (H0.out.kept hop)
  obtain ⟨q0, q1, q2, qf, ql⟩ := row3 (H0.out.kept hsp)
  go_upto_region 19 with (go_at_call 157; (with_reducible refine (pop_i H0.out).mono ?_); rintro e w1 ⟨v1, b1, m1, hv1, rfl, hC1, ho1⟩)
  have H1 := Lib.hid hC1
  clear hC1
  clear y0 y1 yf yl z0 z1 z2 z3 z4 z5 z6 zf zl p0 p1 pf0 pf1 pl q0 q1 q2 qf ql
  obtain ⟨A, c, Ao, co, y0, y1, yf, yl, z0, z1, z2, z3, z4, z5, z6, zf, zl, hk⟩ := H1.out.cells
  obtain ⟨p0, p1, pf0, pf1, pl⟩ := box2 (H1.out.kept hop)
  obtain ⟨q0, q1, q2, qf, ql⟩ := row3 (H1.out.kept hsp)
  go_upto_region 20 with (go_at_call 157; (with_reducible refine (pop_i H1.out).mono ?_); rintro e w2 ⟨v2, b2, m2, hv2, rfl, hC2, ho2⟩)
  have H2 := Lib.hid hC2
  clear hC2
  clear y0 y1 yf yl z0 z1 z2 z3 z4 z5 z6 zf zl p0 p1 pf0 pf1 pl q0 q1 q2 qf ql
  obtain ⟨A, c, Ao, co, y0, y1, yf, yl, z0, z1, z2, z3, z4, z5, z6, zf, zl, hk⟩ := H2.out.cells
  obtain ⟨p0, p1, pf0, pf1, pl⟩ := box2 (H2.out.kept hop)
  obtain ⟨q0, q1, q2, qf, ql⟩ := row3 (H2.out.kept hsp)
  go_wp2_with (first | (go_at_call 158; (with_reducible refine (applyC_i (k := 5) (a := v2) (b := v1) (by omega) hv2 hv1).mono ?_); rintro e w3 ⟨rfl, rfl⟩) | (go_at_call 154; (with_reducible refine (push_i H2.out (applyC_bd 8 v2 v1)).mono ?_); rintro e w4 ⟨rfl, b4, m4, hC4, ho4⟩))
  exact bodyPost_end (v := .tuple #[]) (by simp [results, Try.results132, go_sem]) rfl ⟨rfl, _, _, (hC4).drop HS.out, by rw [pmA_f (by omega), cPop_opt (K := fun p => (cPop p.1).bind fun q => cPush q.1 (applyC 8 q.2 p.2)) ho1, cPop_opt (K := fun q => cPush q.1 (applyC 8 q.2 v1)) ho2]; exact ho4⟩
set_option maxRecDepth 100000 in
set_option maxHeartbeats 2000000 in
theorem perform_i9 {B : List (Nat × Obj)} {Y W : World} {N gc gm : Nat} {m : DMachine} {es : List Int} {A0 A1 A2 : Option Addr} {n0 n1 c0 c1 c2 : Nat} {arg : Int} (h : StI B Y W N gc gm false m)  :
    Calls Try.prog 132 #[.pointer (some ⟨gc, 0, none⟩), .agg #[.slice A0 n0 c0, .slice A1 n1 c1, .slice A2 es.length c2], .agg #[.int .i64 9, .int .i64 arg]] W (ActI (fun m => performM es m 9 arg) B Y N gc gm false m) := by
  have h2 := (h.allocB (cs := #[.slice A0 n0 c0, .slice A1 n1 c1, .slice A2 es.length c2]) (t := 33)).allocB (cs := #[.int .i64 9, .int .i64 arg]) (t := 166)
  have hsub : ∀ p ∈ B, p ∈ ((W.alloc (.cells #[.slice A0 n0 c0, .slice A1 n1 c1, .slice A2 es.length c2] 33)).heap.size, Obj.cells #[.int .i64 9, .int .i64 arg] 166 (0, 0)) :: (W.heap.size, Obj.cells #[.slice A0 n0 c0, .slice A1 n1 c1, .slice A2 es.length c2] 33 (0, 0)) :: B := fun p hp => List.mem_cons_of_mem _ (List.mem_cons_of_mem _ hp)
  go_enter Try.func132, Try.ntmps132
  go_upto_region 1 with (fail)
  rw [World.size_alloc] at h2 hsub
  generalize (W.alloc (.cells #[.slice A0 n0 c0, .slice A1 n1 c1, .slice A2 es.length c2] 33)).alloc (.cells #[.int .i64 9, .int .i64 arg] 166) = W1 at h2 ⊢
  obtain ⟨gs, hgs⟩ : ∃ g, W.heap.size = g := ⟨_, rfl⟩
  rw [hgs] at h2 hsub ⊢
  obtain ⟨BB, hBB⟩ : ∃ X, (gs + 1, Obj.cells #[.int .i64 9, .int .i64 arg] 166 (0, 0)) :: (gs, Obj.cells #[.slice A0 n0 c0, .slice A1 n1 c1, .slice A2 es.length c2] 33 (0, 0)) :: B = X := ⟨_, rfl⟩
  have hop : (gs + 1, Obj.cells #[.int .i64 9, .int .i64 arg] 166 (0, 0)) ∈ BB := by rw [← hBB]; exact List.mem_cons_self
  have hsp : (gs, Obj.cells #[.slice A0 n0 c0, .slice A1 n1 c1, .slice A2 es.length c2] 33 (0, 0)) ∈ BB := by rw [← hBB]; exact List.mem_cons_of_mem _ List.mem_cons_self
  rw [hBB] at h2 hsub
  clear hBB hgs
  have H0 := Lib.hid h2
  have HS := Lib.hid hsub
  clear h h2 hsub
  obtain ⟨A, c, Ao, co, y0, y1, yf, yl, z0, z1, z2, z3, z4, z5, z6, zf, zl, hk⟩ := H0.out.cells
  obtain ⟨p0, p1, pf0, pf1, pl⟩ := box2 (H0.out.kept hop)
  obtain ⟨q0, q1, q2, qf, ql⟩ := row3 (H0.out.kept hsp)
  go_upto_region 19 with (go_at_call 157; (with_reducible refine (pop_i H0.out).mono ?_); rintro e w1 ⟨v1, b1, m1, hv1, rfl, hC1, ho1⟩)
  have H1 := Lib.hid hC1
  clear hC1
  clear y0 y1 yf yl z0 z1 z2 z3 z4 z5 z6 zf zl p0 p1 pf0 pf1 pl q0 q1 q2 qf ql
  obtain ⟨A, c, Ao, co, y0, y1, yf, yl, z0, z1, z2, z3, z4, z5, z6, zf, zl, hk⟩ := H1.out.cells
  obtain ⟨p0, p1, pf0, pf1, pl⟩ := box2 (H1.out.kept hop)
  obtain ⟨q0, q1, q2, qf, ql⟩ := row3 (H1.out.kept hsp)
  go_upto_region 20 with (go_at_call 157; (with_reducible refine (pop_i H1.out).mono ?_); rintro e w2 ⟨v2, b2, m2, hv2, rfl, hC2, ho2⟩)
  have H2 := Lib.hid hC2
  clear hC2
  clear y0 y1 yf yl z0 z1 z2 z3 z4 z5 z6 zf zl p0 p1 pf0 pf1 pl q0 q1 q2 qf ql
  obtain ⟨A, c, Ao, co, y0, y1, yf, yl, z0, z1, z2, z3, z4, z5, z6, zf, zl, hk⟩ := H2.out.cells
  obtain ⟨p0, p1, pf0, pf1, pl⟩ := box2 (H2.out.kept hop)
  obtain ⟨q0, q1, q2, qf, ql⟩ := row3 (H2.out.kept hsp)
  go_wp2_with (first | (go_at_call 158; (with_reducible refine (applyC_i (k := 6) (a := v2) (b := v1) (by omega) hv2 hv1).mono ?_); rintro e w3 ⟨rfl, rfl⟩) | (go_at_call 154; (with_reducible refine (push_i H2.out (applyC_bd 9 v2 v1)).mono ?_); rintro e w4 ⟨rfl, b4, m4, hC4, ho4⟩))
  exact bodyPost_end (v := .tuple #[]) (by simp [results, Try.results132, go_sem]) rfl ⟨rfl, _, _, (hC4).drop HS.out, by rw [pmA_f (by omega), cPop_opt (K := fun p => (cPop p.1).bind fun q => cPush q.1 (applyC 9 q.2 p.2)) ho1, cPop_opt (K := fun q => cPush q.1 (applyC 9 q.2 v1)) ho2]; exact ho4⟩
set_option maxRecDepth 100000 in
set_option maxHeartbeats 2000000 in
theorem perform_i10 {B : List (Nat × Obj)} {Y W : World} {N gc gm : Nat} {m : DMachine} {es : List Int} {A0 A1 A2 : Option Addr} {n0 n1 c0 c1 c2 : Nat} {arg : Int} (h : StI B Y W N gc gm false m) (hp : -4611686018427387904 ≤ m.Pc ∧ m.Pc ≤ 4611686018427387904) (ha : -32768 ≤ arg ∧ arg ≤ 32767) :
    Calls Try.prog 132 #[.pointer (some ⟨gc, 0, none⟩), .agg #[.slice A0 n0 c0, .slice A1 n1 c1, .slice A2 es.length c2], .agg #[.int .i64 10, .int .i64 arg]] W (ActI (fun m => performM es m 10 arg) B Y N gc gm false m) := by
  have h2 := (h.allocB (cs := #[.slice A0 n0 c0, .slice A1 n1 c1, .slice A2 es.length c2]) (t := 33)).allocB (cs := #[.int .i64 10, .int .i64 arg]) (t := 166)
  have hsub : ∀ p ∈ B, p ∈ ((W.alloc (.cells #[.slice A0 n0 c0, .slice A1 n1 c1, .slice A2 es.length c2] 33)).heap.size, Obj.cells #[.int .i64 10, .int .i64 arg] 166 (0, 0)) :: (W.heap.size, Obj.cells #[.slice A0 n0 c0, .slice A1 n1 c1, .slice A2 es.length c2] 33 (0, 0)) :: B := fun p hp => List.mem_cons_of_mem _ (List.mem_cons_of_mem _ hp)
  go_enter Try.func132, Try.ntmps132
  go_upto_region 1 with (fail)
  rw [World.size_alloc] at h2 hsub
  generalize (W.alloc (.cells #[.slice A0 n0 c0, .slice A1 n1 c1, .slice A2 es.length c2] 33)).alloc (.cells #[.int .i64 10, .int .i64 arg] 166) = W1 at h2 ⊢
  obtain ⟨gs, hgs⟩ : ∃ g, W.heap.size = g := ⟨_, rfl⟩
  rw [hgs] at h2 hsub ⊢
  obtain ⟨BB, hBB⟩ : ∃ X, (gs + 1, Obj.cells #[.int .i64 10, .int .i64 arg] 166 (0, 0)) :: (gs, Obj.cells #[.slice A0 n0 c0, .slice A1 n1 c1, .slice A2 es.length c2] 33 (0, 0)) :: B = X := ⟨_, rfl⟩
  have hop : (gs + 1, Obj.cells #[.int .i64 10, .int .i64 arg] 166 (0, 0)) ∈ BB := by rw [← hBB]; exact List.mem_cons_self
  have hsp : (gs, Obj.cells #[.slice A0 n0 c0, .slice A1 n1 c1, .slice A2 es.length c2] 33 (0, 0)) ∈ BB := by rw [← hBB]; exact List.mem_cons_of_mem _ List.mem_cons_self
  rw [hBB] at h2 hsub
  clear hBB hgs
  have H0 := Lib.hid h2
  have HS := Lib.hid hsub
  clear h h2 hsub
  obtain ⟨A, c, Ao, co, y0, y1, yf, yl, z0, z1, z2, z3, z4, z5, z6, zf, zl, hk⟩ := H0.out.cells
  obtain ⟨p0, p1, pf0, pf1, pl⟩ := box2 (H0.out.kept hop)
  obtain ⟨q0, q1, q2, qf, ql⟩ := row3 (H0.out.kept hsp)
  have hk0 := hk
  go_upto_region 22 with (fail)
  refine region_tail 9 (by kernel_rfl) (by kernel_rfl) (fun wx hgx => ?_)
  have HX := Lib.hid (H0.out.gro hgx)
  clear y0 y1 yf yl z0 z1 z2 z3 z4 z5 z6 zf zl p0 p1 pf0 pf1 pl q0 q1 q2 qf ql
  obtain ⟨A, c, Ao, co, y0, y1, yf, yl, z0, z1, z2, z3, z4, z5, z6, zf, zl, hk⟩ := HX.out.cells
  obtain ⟨p0, p1, pf0, pf1, pl⟩ := box2 (HX.out.kept hop)
  obtain ⟨q0, q1, q2, qf, ql⟩ := row3 (HX.out.kept hsp)
  simp only [List.take_succ_cons, List.take_zero, List.drop_succ_cons, List.drop_zero]
  repeat still_step
  refine wpStill_nil ?_
  have hwr : wrap64 (m.Pc + arg) = m.Pc + arg := wrap64_small (by omega) (by omega)
  go_wp2_with (fail)
  have hC1 := HX.out.num (i := 0) (v := .int .i64 (m.Pc + arg)) (m' := { m with Pc := m.Pc + arg }) rfl rfl ⟨hk.len, hk.out, ⟨by show _ ≤ m.Pc + arg; omega, by show m.Pc + arg ≤ _; omega⟩, hk.sp, hk.fp, hk.st, hk.va⟩ (fun _ _ => rfl)
  exact bodyPost_end (v := .tuple #[]) (by simp [results, Try.results132, go_sem]) rfl ⟨rfl, _, _, (hC1.gro (by repeat (first | with_reducible exact Gro.refl _ | with_reducible exact Gro.refl_drew _ _ _ | with_reducible exact Gro.refl_drewN _ _ _ _ | assumption | with_reducible apply Gro.more | with_reducible apply Gro.alloc | with_reducible apply Gro.drew | with_reducible apply Gro.drewN))).drop HS.out, rfl⟩
set_option maxRecDepth 100000 in
set_option maxHeartbeats 2000000 in
theorem perform_i12 {B : List (Nat × Obj)} {Y W : World} {N gc gm : Nat} {m : DMachine} {es : List Int} {A0 A1 A2 : Option Addr} {n0 n1 c0 c1 c2 : Nat} {arg : Int} (h : StI B Y W N gc gm false m) (he : (intT.sl 3).R Y Y.heap.size [.slice A2 es.length c2] es) (hes : es.length ≤ 9223372036854775807) (ha : 0 ≤ arg ∧ arg ≤ 255) :
    Calls Try.prog 132 #[.pointer (some ⟨gc, 0, none⟩), .agg #[.slice A0 n0 c0, .slice A1 n1 c1, .slice A2 es.length c2], .agg #[.int .i64 12, .int .i64 arg]] W (ActI (fun m => performM es m 12 arg) B Y N gc gm false m) := by
  have h2 := (h.allocB (cs := #[.slice A0 n0 c0, .slice A1 n1 c1, .slice A2 es.length c2]) (t := 33)).allocB (cs := #[.int .i64 12, .int .i64 arg]) (t := 166)
  have hsub : ∀ p ∈ B, p ∈ ((W.alloc (.cells #[.slice A0 n0 c0, .slice A1 n1 c1, .slice A2 es.length c2] 33)).heap.size, Obj.cells #[.int .i64 12, .int .i64 arg] 166 (0, 0)) :: (W.heap.size, Obj.cells #[.slice A0 n0 c0, .slice A1 n1 c1, .slice A2 es.length c2] 33 (0, 0)) :: B := fun p hp => List.mem_cons_of_mem _ (List.mem_cons_of_mem _ hp)
  go_enter Try.func132, Try.ntmps132
  go_upto_region 1 with (fail)
  rw [World.size_alloc] at h2 hsub
  generalize (W.alloc (.cells #[.slice A0 n0 c0, .slice A1 n1 c1, .slice A2 es.length c2] 33)).alloc (.cells #[.int .i64 12, .int .i64 arg] 166) = W1 at h2 ⊢
  obtain ⟨gs, hgs⟩ : ∃ g, W.heap.size = g := ⟨_, rfl⟩
  rw [hgs] at h2 hsub ⊢
  obtain ⟨BB, hBB⟩ : ∃ X, (gs + 1, Obj.cells #[.int .i64 12, .int .i64 arg] 166 (0, 0)) :: (gs, Obj.cells #[.slice A0 n0 c0, .slice A1 n1 c1, .slice A2 es.length c2] 33 (0, 0)) :: B = X := ⟨_, rfl⟩
  have hop : (gs + 1, Obj.cells #[.int .i64 12, .int .i64 arg] 166 (0, 0)) ∈ BB := by rw [← hBB]; exact List.mem_cons_self
  have hsp : (gs, Obj.cells #[.slice A0 n0 c0, .slice A1 n1 c1, .slice A2 es.length c2] 33 (0, 0)) ∈ BB := by rw [← hBB]; exact List.mem_cons_of_mem _ List.mem_cons_self
  rw [hBB] at h2 hsub
  clear hBB hgs
  have H0 := Lib.hid h2
  have HS := Lib.hid hsub
  clear h h2 hsub
  obtain ⟨A, c, Ao, co, y0, y1, yf, yl, z0, z1, z2, z3, z4, z5, z6, zf, zl, hk⟩ := H0.out.cells
  obtain ⟨p0, p1, pf0, pf1, pl⟩ := box2 (H0.out.kept hop)
  obtain ⟨q0, q1, q2, qf, ql⟩ := row3 (H0.out.kept hsp)
  have hpc := hk.pc
  go_upto_region 28 with (go_at_call 154; (with_reducible refine (push_i H0.out hpc).mono ?_); rintro e w1 ⟨rfl, b1, m1, hC1, ho1⟩)
  have H1 := Lib.hid hC1
  clear hC1
  clear y0 y1 yf yl z0 z1 z2 z3 z4 z5 z6 zf zl p0 p1 pf0 pf1 pl q0 q1 q2 qf ql
  obtain ⟨A, c, Ao, co, y0, y1, yf, yl, z0, z1, z2, z3, z4, z5, z6, zf, zl, hk⟩ := H1.out.cells
  obtain ⟨p0, p1, pf0, pf1, pl⟩ := box2 (H1.out.kept hop)
  obtain ⟨q0, q1, q2, qf, ql⟩ := row3 (H1.out.kept hsp)
  have hel := Ty.up _ he H1.out.grow
  by_cases hlt : arg < (es.length : Int)
  · obtain ⟨a, rfl⟩ := Int.eq_ofNat_of_zero_le ha.1
    obtain ⟨ge, offe, x, rfl, hxk, hcx, bx1, bx2⟩ := ints_at hel (k := a) (by omega)
    go_wp2_with (fail)
    have hC2 := H1.out.num (i := 0) (v := .int .i64 x) (m' := { m1 with Pc := x }) rfl rfl ⟨hk.len, hk.out, ⟨bx1, bx2⟩, hk.sp, hk.fp, hk.st, hk.va⟩ (fun _ _ => rfl)
    exact bodyPost_end (v := .tuple #[]) (by simp [results, Try.results132, go_sem]) rfl ⟨rfl, _, _, (hC2).drop HS.out, by rw [pm12_f, cPush_opt2 (f := fun m => m.Pc) rfl (K := fun m' => (es[(a : Int).toNat]?).map fun e => { m' with Pc := e }) ho1, Int.toNat_natCast, hxk]; cases b1 <;> rfl⟩
  · go_wp2_with (fail)
    have hC2 := H1.out.bad true
    exact bodyPost_end (v := .tuple #[]) (by simp [results, Try.results132, go_sem]) rfl ⟨rfl, _, _, (hC2).drop HS.out, by rw [pm12_f, List.getElem?_eq_none (by omega)]; show none = (cPush m m.Pc).bind _; cases cPush m m.Pc <;> rfl⟩
set_option maxRecDepth 100000 in
set_option maxHeartbeats 2000000 in
theorem perform_i13 {B : List (Nat × Obj)} {Y W : World} {N gc gm : Nat} {m : DMachine} {es : List Int} {A0 A1 A2 : Option Addr} {n0 n1 c0 c1 c2 : Nat} {arg : Int} (h : StI B Y W N gc gm false m) (ha : 0 ≤ arg ∧ arg ≤ 255) :
    Calls Try.prog 132 #[.pointer (some ⟨gc, 0, none⟩), .agg #[.slice A0 n0 c0, .slice A1 n1 c1, .slice A2 es.length c2], .agg #[.int .i64 13, .int .i64 arg]] W (ActI (fun m => performM es m 13 arg) B Y N gc gm false m) := by
  have h2 := (h.allocB (cs := #[.slice A0 n0 c0, .slice A1 n1 c1, .slice A2 es.length c2]) (t := 33)).allocB (cs := #[.int .i64 13, .int .i64 arg]) (t := 166)
  have hsub : ∀ p ∈ B, p ∈ ((W.alloc (.cells #[.slice A0 n0 c0, .slice A1 n1 c1, .slice A2 es.length c2] 33)).heap.size, Obj.cells #[.int .i64 13, .int .i64 arg] 166 (0, 0)) :: (W.heap.size, Obj.cells #[.slice A0 n0 c0, .slice A1 n1 c1, .slice A2 es.length c2] 33 (0, 0)) :: B := fun p hp => List.mem_cons_of_mem _ (List.mem_cons_of_mem _ hp)
  go_enter Try.func132, Try.ntmps132
  go_upto_region 1 with (fail)
  rw [World.size_alloc] at h2 hsub
  generalize (W.alloc (.cells #[.slice A0 n0 c0, .slice A1 n1 c1, .slice A2 es.length c2] 33)).alloc (.cells #[.int .i64 13, .int .i64 arg] 166) = W1 at h2 ⊢
  obtain ⟨gs, hgs⟩ : ∃ g, W.heap.size = g := ⟨_, rfl⟩
  rw [hgs] at h2 hsub ⊢
  obtain ⟨BB, hBB⟩ : ∃ X, (gs + 1, Obj.cells #[.int .i64 13, .int .i64 arg] 166 (0, 0)) :: (gs, Obj.cells #[.slice A0 n0 c0, .slice A1 n1 c1, .slice A2 es.length c2] 33 (0, 0)) :: B = X := ⟨_, rfl⟩
  have hop : (gs + 1, Obj.cells #[.int .i64 13, .int .i64 arg] 166 (0, 0)) ∈ BB := by rw [← hBB]; exact List.mem_cons_self
  have hsp : (gs, Obj.cells #[.slice A0 n0 c0, .slice A1 n1 c1, .slice A2 es.length c2] 33 (0, 0)) ∈ BB := by rw [← hBB]; exact List.mem_cons_of_mem _ List.mem_cons_self
  rw [hBB] at h2 hsub
  clear hBB hgs
  have H0 := Lib.hid h2
  have HS := Lib.hid hsub
  clear h h2 hsub
  obtain ⟨A, c, Ao, co, y0, y1, yf, yl, z0, z1, z2, z3, z4, z5, z6, zf, zl, hk⟩ := H0.out.cells
  obtain ⟨p0, p1, pf0, pf1, pl⟩ := box2 (H0.out.kept hop)
  obtain ⟨q0, q1, q2, qf, ql⟩ := row3 (H0.out.kept hsp)
  have hI : I64 arg := ⟨by omega, by omega⟩
  have hfp := hk.fp
  go_upto_region 33 with (go_at_call 154; (with_reducible refine (push_i H0.out hfp).mono ?_); rintro e w1 ⟨rfl, b1, m1, hC1, ho1⟩)
  have H1 := Lib.hid hC1
  clear hC1
  clear y0 y1 yf yl z0 z1 z2 z3 z4 z5 z6 zf zl p0 p1 pf0 pf1 pl q0 q1 q2 qf ql
  obtain ⟨A, c, Ao, co, y0, y1, yf, yl, z0, z1, z2, z3, z4, z5, z6, zf, zl, hk⟩ := H1.out.cells
  obtain ⟨p0, p1, pf0, pf1, pl⟩ := box2 (H1.out.kept hop)
  obtain ⟨q0, q1, q2, qf, ql⟩ := row3 (H1.out.kept hsp)
  go_upto_region 34 with (fail)
  have hC2 := H1.out.num (i := 2) (v := .int .i64 m1.Sp) (m' := { m1 with Fp := m1.Sp }) rfl rfl ⟨hk.len, hk.out, hk.pc, hk.sp, hk.sp, hk.st, hk.va⟩ (fun _ _ => rfl)
  generalize w1.setCell ⟨gm, 2, none⟩ (.int .i64 m1.Sp) = w2 at hC2 ⊢
  have H2 := Lib.hid hC2
  clear hC2
  clear y0 y1 yf yl z0 z1 z2 z3 z4 z5 z6 zf zl p0 p1 pf0 pf1 pl q0 q1 q2 qf ql
  obtain ⟨A, c, Ao, co, y0, y1, yf, yl, z0, z1, z2, z3, z4, z5, z6, zf, zl, hk⟩ := H2.out.cells
  obtain ⟨p0, p1, pf0, pf1, pl⟩ := box2 (H2.out.kept hop)
  obtain ⟨q0, q1, q2, qf, ql⟩ := row3 (H2.out.kept hsp)
  go_wp2_with (go_at_call 159; (with_reducible refine (zeros_i H2.out hI).mono ?_); rintro e w3 ⟨rfl, b3, m3, hC3, ho3⟩)
  exact bodyPost_end (v := .tuple #[]) (by simp [results, Try.results132, go_sem]) rfl ⟨rfl, _, _, (hC3).drop HS.out, by rw [ho3, pm13_f, cPush_opt2 (f := fun m => m.Fp) rfl (K := fun m' => cZeros arg.toNat { m' with Fp := m'.Sp }) ho1]; cases b1 <;> rfl⟩
set_option maxRecDepth 100000 in
set_option maxHeartbeats 2000000 in
theorem perform_i15 {B : List (Nat × Obj)} {Y W : World} {N gc gm : Nat} {m : DMachine} {es : List Int} {A0 A1 A2 : Option Addr} {n0 n1 c0 c1 c2 : Nat} {arg : Int} (h : StI B Y W N gc gm false m) (ha : 0 ≤ arg ∧ arg ≤ 255) :
    Calls Try.prog 132 #[.pointer (some ⟨gc, 0, none⟩), .agg #[.slice A0 n0 c0, .slice A1 n1 c1, .slice A2 es.length c2], .agg #[.int .i64 15, .int .i64 arg]] W (ActI (fun m => performM es m 15 arg) B Y N gc gm false m) := by
  have h2 := (h.allocB (cs := #[.slice A0 n0 c0, .slice A1 n1 c1, .slice A2 es.length c2]) (t := 33)).allocB (cs := #[.int .i64 15, .int .i64 arg]) (t := 166)
  have hsub : ∀ p ∈ B, p ∈ ((W.alloc (.cells #[.slice A0 n0 c0, .slice A1 n1 c1, .slice A2 es.length c2] 33)).heap.size, Obj.cells #[.int .i64 15, .int .i64 arg] 166 (0, 0)) :: (W.heap.size, Obj.cells #[.slice A0 n0 c0, .slice A1 n1 c1, .slice A2 es.length c2] 33 (0, 0)) :: B := fun p hp => List.mem_cons_of_mem _ (List.mem_cons_of_mem _ hp)
  go_enter Try.func132, Try.ntmps132
  go_upto_region 1 with (fail)
  rw [World.size_alloc] at h2 hsub
  generalize (W.alloc (.cells #[.slice A0 n0 c0, .slice A1 n1 c1, .slice A2 es.length c2] 33)).alloc (.cells #[.int .i64 15, .int .i64 arg] 166) = W1 at h2 ⊢
  obtain ⟨gs, hgs⟩ : ∃ g, W.heap.size = g := ⟨_, rfl⟩
  rw [hgs] at h2 hsub ⊢
  obtain ⟨BB, hBB⟩ : ∃ X, (gs + 1, Obj.cells #[.int .i64 15, .int .i64 arg] 166 (0, 0)) :: (gs, Obj.cells #[.slice A0 n0 c0, .slice A1 n1 c1, .slice A2 es.length c2] 33 (0, 0)) :: B = X := ⟨_, rfl⟩
  have hop : (gs + 1, Obj.cells #[.int .i64 15, .int .i64 arg] 166 (0, 0)) ∈ BB := by rw [← hBB]; exact List.mem_cons_self
  have hsp : (gs, Obj.cells #[.slice A0 n0 c0, .slice A1 n1 c1, .slice A2 es.length c2] 33 (0, 0)) ∈ BB := by rw [← hBB]; exact List.mem_cons_of_mem _ List.mem_cons_self
  rw [hBB] at h2 hsub
  clear hBB hgs
  have H0 := Lib.hid h2
  have HS := Lib.hid hsub
  clear h h2 hsub
  obtain ⟨A, c, Ao, co, y0, y1, yf, yl, z0, z1, z2, z3, z4, z5, z6, zf, zl, hk⟩ := H0.out.cells
  obtain ⟨p0, p1, pf0, pf1, pl⟩ := box2 (H0.out.kept hop)
  obtain ⟨q0, q1, q2, qf, ql⟩ := row3 (H0.out.kept hsp)
  have hI : I64 arg := ⟨by omega, by omega⟩
  go_wp2_with (go_at_call 159; (with_reducible refine (zeros_i H0.out hI).mono ?_); rintro e w1 ⟨rfl, b1, m1, hC1, ho1⟩)
  exact bodyPost_end (v := .tuple #[]) (by simp [results, Try.results132, go_sem]) rfl ⟨rfl, _, _, (hC1).drop HS.out, ho1⟩
set_option maxRecDepth 100000 in
set_option maxHeartbeats 2000000 in
theorem perform_i14 {B : List (Nat × Obj)} {Y W : World} {N gc gm : Nat} {m : DMachine} {es : List Int} {A0 A1 A2 : Option Addr} {n0 n1 c0 c1 c2 : Nat} {arg : Int} (h : StI B Y W N gc gm false m) (ha : 0 ≤ arg ∧ arg ≤ 255) :
    Calls Try.prog 132 #[.pointer (some ⟨gc, 0, none⟩), .agg #[.slice A0 n0 c0, .slice A1 n1 c1, .slice A2 es.length c2], .agg #[.int .i64 14, .int .i64 arg]] W (ActI (fun m => performM es m 14 arg) B Y N gc gm false m) := by
  have h2 := (h.allocB (cs := #[.slice A0 n0 c0, .slice A1 n1 c1, .slice A2 es.length c2]) (t := 33)).allocB (cs := #[.int .i64 14, .int .i64 arg]) (t := 166)
  have hsub : ∀ p ∈ B, p ∈ ((W.alloc (.cells #[.slice A0 n0 c0, .slice A1 n1 c1, .slice A2 es.length c2] 33)).heap.size, Obj.cells #[.int .i64 14, .int .i64 arg] 166 (0, 0)) :: (W.heap.size, Obj.cells #[.slice A0 n0 c0, .slice A1 n1 c1, .slice A2 es.length c2] 33 (0, 0)) :: B := fun p hp => List.mem_cons_of_mem _ (List.mem_cons_of_mem _ hp)
  go_enter Try.func132, Try.ntmps132
  go_upto_region 1 with (fail)
  rw [World.size_alloc] at h2 hsub
  generalize (W.alloc (.cells #[.slice A0 n0 c0, .slice A1 n1 c1, .slice A2 es.length c2] 33)).alloc (.cells #[.int .i64 14, .int .i64 arg] 166) = W1 at h2 ⊢
  obtain ⟨gs, hgs⟩ : ∃ g, W.heap.size = g := ⟨_, rfl⟩
  rw [hgs] at h2 hsub ⊢
  obtain ⟨BB, hBB⟩ : ∃ X, (gs + 1, Obj.cells #[.int .i64 14, .int .i64 arg] 166 (0, 0)) :: (gs, Obj.cells #[.slice A0 n0 c0, .slice A1 n1 c1, .slice A2 es.length c2] 33 (0, 0)) :: B = X := ⟨_, rfl⟩
  have hop : (gs + 1, Obj.cells #[.int .i64 14, .int .i64 arg] 166 (0, 0)) ∈ BB := by rw [← hBB]; exact List.mem_cons_self
  have hsp : (gs, Obj.cells #[.slice A0 n0 c0, .slice A1 n1 c1, .slice A2 es.length c2] 33 (0, 0)) ∈ BB := by rw [← hBB]; exact List.mem_cons_of_mem _ List.mem_cons_self
  rw [hBB] at h2 hsub
  clear hBB hgs
  have H0 := Lib.hid h2
  have HS := Lib.hid hsub
  clear h h2 hsub
  obtain ⟨A, c, Ao, co, y0, y1, yf, yl, z0, z1, z2, z3, z4, z5, z6, zf, zl, hk⟩ := H0.out.cells
  obtain ⟨p0, p1, pf0, pf1, pl⟩ := box2 (H0.out.kept hop)
  obtain ⟨q0, q1, q2, qf, ql⟩ := row3 (H0.out.kept hsp)
  have hI : I64 arg := ⟨by omega, by omega⟩
  go_upto_region 39 with (go_at_call 157; (with_reducible refine (pop_i H0.out).mono ?_); rintro e w1 ⟨v1, b1, m1, hv1, rfl, hC1, ho1⟩)
  have H1 := Lib.hid hC1
  clear hC1
  clear y0 y1 yf yl z0 z1 z2 z3 z4 z5 z6 zf zl p0 p1 pf0 pf1 pl q0 q1 q2 qf ql
  obtain ⟨A, c, Ao, co, y0, y1, yf, yl, z0, z1, z2, z3, z4, z5, z6, zf, zl, hk⟩ := H1.out.cells
  obtain ⟨p0, p1, pf0, pf1, pl⟩ := box2 (H1.out.kept hop)
  obtain ⟨q0, q1, q2, qf, ql⟩ := row3 (H1.out.kept hsp)
  go_upto_region 40 with (fail)
  have hC2 := H1.out.num (i := 1) (v := .int .i64 m1.Fp) (m' := { m1 with Sp := m1.Fp }) rfl rfl ⟨hk.len, hk.out, hk.pc, hk.fp, hk.fp, hk.st, hk.va⟩ (fun _ _ => rfl)
  generalize w1.setCell ⟨gm, 1, none⟩ (.int .i64 m1.Fp) = w2 at hC2 ⊢
  have H2 := Lib.hid hC2
  clear hC2
  clear y0 y1 yf yl z0 z1 z2 z3 z4 z5 z6 zf zl p0 p1 pf0 pf1 pl q0 q1 q2 qf ql
  obtain ⟨A, c, Ao, co, y0, y1, yf, yl, z0, z1, z2, z3, z4, z5, z6, zf, zl, hk⟩ := H2.out.cells
  obtain ⟨p0, p1, pf0, pf1, pl⟩ := box2 (H2.out.kept hop)
  obtain ⟨q0, q1, q2, qf, ql⟩ := row3 (H2.out.kept hsp)
  go_upto_region 41 with (go_at_call 157; (with_reducible refine (pop_i H2.out).mono ?_); rintro e w3 ⟨v3, b3, m3, hv3, rfl, hC3, ho3⟩; have H3 := Lib.hid hC3; obtain ⟨A, c, Ao, co, y0, y1, yf, yl, z0, z1, z2, z3, z4, z5, z6, zf, zl, hk⟩ := hC3.cells)
  have hC4 := H3.out.num (i := 2) (v := .int .i64 v3) (m' := { m3 with Fp := v3 }) rfl rfl ⟨hk.len, hk.out, hk.pc, hk.sp, hv3, hk.st, hk.va⟩ (fun _ _ => rfl)
  generalize w3.setCell ⟨gm, 2, none⟩ (.int .i64 v3) = w4 at hC4 ⊢
  have H4 := Lib.hid hC4
  clear hC4
  clear y0 y1 yf yl z0 z1 z2 z3 z4 z5 z6 zf zl p0 p1 pf0 pf1 pl q0 q1 q2 qf ql
  obtain ⟨A, c, Ao, co, y0, y1, yf, yl, z0, z1, z2, z3, z4, z5, z6, zf, zl, hk⟩ := H4.out.cells
  obtain ⟨p0, p1, pf0, pf1, pl⟩ := box2 (H4.out.kept hop)
  obtain ⟨q0, q1, q2, qf, ql⟩ := row3 (H4.out.kept hsp)
  go_upto_region 42 with (go_at_call 157; (with_reducible refine (pop_i H4.out).mono ?_); rintro e w5 ⟨v5, b5, m5, hv5, rfl, hC5, ho5⟩; have H5 := Lib.hid hC5; obtain ⟨A, c, Ao, co, y0, y1, yf, yl, z0, z1, z2, z3, z4, z5, z6, zf, zl, hk⟩ := hC5.cells)
  have hC6 := H5.out.num (i := 0) (v := .int .i64 v5) (m' := { m5 with Pc := v5 }) rfl rfl ⟨hk.len, hk.out, hv5, hk.sp, hk.fp, hk.st, hk.va⟩ (fun _ _ => rfl)
  generalize w5.setCell ⟨gm, 0, none⟩ (.int .i64 v5) = w6 at hC6 ⊢
  have H6 := Lib.hid hC6
  clear hC6
  clear y0 y1 yf yl z0 z1 z2 z3 z4 z5 z6 zf zl p0 p1 pf0 pf1 pl q0 q1 q2 qf ql
  obtain ⟨A, c, Ao, co, y0, y1, yf, yl, z0, z1, z2, z3, z4, z5, z6, zf, zl, hk⟩ := H6.out.cells
  obtain ⟨p0, p1, pf0, pf1, pl⟩ := box2 (H6.out.kept hop)
  obtain ⟨q0, q1, q2, qf, ql⟩ := row3 (H6.out.kept hsp)
  go_upto_region 43 with (go_at_call 160; (with_reducible refine (drop_i H6.out hI).mono ?_); rintro e w7 ⟨rfl, b7, m7, hC7, ho7⟩)
  have H7 := Lib.hid hC7
  clear hC7
  clear y0 y1 yf yl z0 z1 z2 z3 z4 z5 z6 zf zl p0 p1 pf0 pf1 pl q0 q1 q2 qf ql
  obtain ⟨A, c, Ao, co, y0, y1, yf, yl, z0, z1, z2, z3, z4, z5, z6, zf, zl, hk⟩ := H7.out.cells
  obtain ⟨p0, p1, pf0, pf1, pl⟩ := box2 (H7.out.kept hop)
  obtain ⟨q0, q1, q2, qf, ql⟩ := row3 (H7.out.kept hsp)
  go_wp2_with (go_at_call 154; (with_reducible refine (push_i H7.out hv1).mono ?_); rintro e w8 ⟨rfl, b8, m8, hC8, ho8⟩)
  exact bodyPost_end (v := .tuple #[]) (by simp [results, Try.results132, go_sem]) rfl ⟨rfl, _, _, (hC8).drop HS.out, leave_opt ho1 ho3 ho5 ho7 ho8⟩
set_option maxRecDepth 100000 in
set_option maxHeartbeats 2000000 in
theorem perform_i16 {B : List (Nat × Obj)} {Y W : World} {N gc gm : Nat} {m : DMachine} {es : List Int} {A0 A1 A2 : Option Addr} {n0 n1 c0 c1 c2 : Nat} {arg : Int} (h : StI B Y W N gc gm false m) (ha : 0 ≤ arg ∧ arg ≤ 65535) :
    Calls Try.prog 132 #[.pointer (some ⟨gc, 0, none⟩), .agg #[.slice A0 n0 c0, .slice A1 n1 c1, .slice A2 es.length c2], .agg #[.int .i64 16, .int .i64 arg]] W (ActI (fun m => performM es m 16 arg) B Y N gc gm false m) := by
  have h2 := (h.allocB (cs := #[.slice A0 n0 c0, .slice A1 n1 c1, .slice A2 es.length c2]) (t := 33)).allocB (cs := #[.int .i64 16, .int .i64 arg]) (t := 166)
  have hsub : ∀ p ∈ B, p ∈ ((W.alloc (.cells #[.slice A0 n0 c0, .slice A1 n1 c1, .slice A2 es.length c2] 33)).heap.size, Obj.cells #[.int .i64 16, .int .i64 arg] 166 (0, 0)) :: (W.heap.size, Obj.cells #[.slice A0 n0 c0, .slice A1 n1 c1, .slice A2 es.length c2] 33 (0, 0)) :: B := fun p hp => List.mem_cons_of_mem _ (List.mem_cons_of_mem _ hp)
  go_enter Try.func132, Try.ntmps132
  go_upto_region 1 with (fail)
  rw [World.size_alloc] at h2 hsub
  generalize (W.alloc (.cells #[.slice A0 n0 c0, .slice A1 n1 c1, .slice A2 es.length c2] 33)).alloc (.cells #[.int .i64 16, .int .i64 arg] 166) = W1 at h2 ⊢
  obtain ⟨gs, hgs⟩ : ∃ g, W.heap.size = g := ⟨_, rfl⟩
  rw [hgs] at h2 hsub ⊢
  obtain ⟨BB, hBB⟩ : ∃ X, (gs + 1, Obj.cells #[.int .i64 16, .int .i64 arg] 166 (0, 0)) :: (gs, Obj.cells #[.slice A0 n0 c0, .slice A1 n1 c1, .slice A2 es.length c2] 33 (0, 0)) :: B = X := ⟨_, rfl⟩
  have hop : (gs + 1, Obj.cells #[.int .i64 16, .int .i64 arg] 166 (0, 0)) ∈ BB := by rw [← hBB]; exact List.mem_cons_self
  have hsp : (gs, Obj.cells #[.slice A0 n0 c0, .slice A1 n1 c1, .slice A2 es.length c2] 33 (0, 0)) ∈ BB := by rw [← hBB]; exact List.mem_cons_of_mem _ List.mem_cons_self
  rw [hBB] at h2 hsub
  clear hBB hgs
  have H0 := Lib.hid h2
  have HS := Lib.hid hsub
  clear h h2 hsub
  obtain ⟨A, c, Ao, co, y0, y1, yf, yl, z0, z1, z2, z3, z4, z5, z6, zf, zl, hk⟩ := H0.out.cells
  obtain ⟨p0, p1, pf0, pf1, pl⟩ := box2 (H0.out.kept hop)
  obtain ⟨q0, q1, q2, qf, ql⟩ := row3 (H0.out.kept hsp)
  obtain ⟨a, rfl⟩ := Int.eq_ofNat_of_zero_le ha.1
  have hI1 : I64 ((a : Int) / 16) := ⟨by omega, by omega⟩
  have hI2 : I64 ((a : Int) % 16) := ⟨by omega, by omega⟩
  go_upto_region 46 with (go_at_call 157; (with_reducible refine (pop_i H0.out).mono ?_); rintro e w1 ⟨v1, b1, m1, hv1, rfl, hC1, ho1⟩)
  have H1 := Lib.hid hC1
  clear hC1
  clear y0 y1 yf yl z0 z1 z2 z3 z4 z5 z6 zf zl p0 p1 pf0 pf1 pl q0 q1 q2 qf ql
  obtain ⟨A, c, Ao, co, y0, y1, yf, yl, z0, z1, z2, z3, z4, z5, z6, zf, zl, hk⟩ := H1.out.cells
  obtain ⟨p0, p1, pf0, pf1, pl⟩ := box2 (H1.out.kept hop)
  obtain ⟨q0, q1, q2, qf, ql⟩ := row3 (H1.out.kept hsp)
  go_upto_region 47 with (go_at_call 160; (with_reducible refine (drop_i (n := (a : Int) / 16) H1.out hI1).mono ?_); rintro e w2 ⟨rfl, b2, m2, hC2, ho2⟩)
  have H2 := Lib.hid hC2
  clear hC2
  clear y0 y1 yf yl z0 z1 z2 z3 z4 z5 z6 zf zl p0 p1 pf0 pf1 pl q0 q1 q2 qf ql
  obtain ⟨A, c, Ao, co, y0, y1, yf, yl, z0, z1, z2, z3, z4, z5, z6, zf, zl, hk⟩ := H2.out.cells
  obtain ⟨p0, p1, pf0, pf1, pl⟩ := box2 (H2.out.kept hop)
  obtain ⟨q0, q1, q2, qf, ql⟩ := row3 (H2.out.kept hsp)
  go_upto_region 48 with (go_at_call 157; (with_reducible refine (pop_i H2.out).mono ?_); rintro e w3 ⟨v3, b3, m3, hv3, rfl, hC3, ho3⟩; have H3 := Lib.hid hC3; obtain ⟨A, c, Ao, co, y0, y1, yf, yl, z0, z1, z2, z3, z4, z5, z6, zf, zl, hk⟩ := hC3.cells)
  have hC4 := H3.out.num (i := 0) (v := .int .i64 v3) (m' := { m3 with Pc := v3 }) rfl rfl ⟨hk.len, hk.out, hv3, hk.sp, hk.fp, hk.st, hk.va⟩ (fun _ _ => rfl)
  generalize w3.setCell ⟨gm, 0, none⟩ (.int .i64 v3) = w4 at hC4 ⊢
  have H4 := Lib.hid hC4
  clear hC4
  clear y0 y1 yf yl z0 z1 z2 z3 z4 z5 z6 zf zl p0 p1 pf0 pf1 pl q0 q1 q2 qf ql
  obtain ⟨A, c, Ao, co, y0, y1, yf, yl, z0, z1, z2, z3, z4, z5, z6, zf, zl, hk⟩ := H4.out.cells
  obtain ⟨p0, p1, pf0, pf1, pl⟩ := box2 (H4.out.kept hop)
  obtain ⟨q0, q1, q2, qf, ql⟩ := row3 (H4.out.kept hsp)
  go_upto_region 49 with (go_at_call 160; (with_reducible refine (drop_i (n := (a : Int) % 16) H4.out hI2).mono ?_); rintro e w5 ⟨rfl, b5, m5, hC5, ho5⟩)
  have H5 := Lib.hid hC5
  clear hC5
  clear y0 y1 yf yl z0 z1 z2 z3 z4 z5 z6 zf zl p0 p1 pf0 pf1 pl q0 q1 q2 qf ql
  obtain ⟨A, c, Ao, co, y0, y1, yf, yl, z0, z1, z2, z3, z4, z5, z6, zf, zl, hk⟩ := H5.out.cells
  obtain ⟨p0, p1, pf0, pf1, pl⟩ := box2 (H5.out.kept hop)
  obtain ⟨q0, q1, q2, qf, ql⟩ := row3 (H5.out.kept hsp)
  go_wp2_with (go_at_call 154; (with_reducible refine (push_i H5.out hv1).mono ?_); rintro e w6 ⟨rfl, b6, m6, hC6, ho6⟩)
  exact bodyPost_end (v := .tuple #[]) (by simp [results, Try.results132, go_sem]) rfl ⟨rfl, _, _, (hC6).drop HS.out, ret_opt ho1 ho2 ho3 ho5 ho6⟩
set_option maxRecDepth 100000 in
set_option maxHeartbeats 2000000 in
theorem perform_i11 {B : List (Nat × Obj)} {Y W : World} {N gc gm : Nat} {m : DMachine} {es : List Int} {A0 A1 A2 : Option Addr} {n0 n1 c0 c1 c2 : Nat} {arg : Int} (h : StI B Y W N gc gm false m) (hp : -4611686018427387904 ≤ m.Pc ∧ m.Pc ≤ 4611686018427387904) (ha : -32768 ≤ arg ∧ arg ≤ 32767) :
    Calls Try.prog 132 #[.pointer (some ⟨gc, 0, none⟩), .agg #[.slice A0 n0 c0, .slice A1 n1 c1, .slice A2 es.length c2], .agg #[.int .i64 11, .int .i64 arg]] W (ActI (fun m => performM es m 11 arg) B Y N gc gm false m) := by
  have h2 := (h.allocB (cs := #[.slice A0 n0 c0, .slice A1 n1 c1, .slice A2 es.length c2]) (t := 33)).allocB (cs := #[.int .i64 11, .int .i64 arg]) (t := 166)
  have hsub : ∀ p ∈ B, p ∈ ((W.alloc (.cells #[.slice A0 n0 c0, .slice A1 n1 c1, .slice A2 es.length c2] 33)).heap.size, Obj.cells #[.int .i64 11, .int .i64 arg] 166 (0, 0)) :: (W.heap.size, Obj.cells #[.slice A0 n0 c0, .slice A1 n1 c1, .slice A2 es.length c2] 33 (0, 0)) :: B := fun p hp => List.mem_cons_of_mem _ (List.mem_cons_of_mem _ hp)
  go_enter Try.func132, Try.ntmps132
  go_upto_region 1 with (fail)
  rw [World.size_alloc] at h2 hsub
  generalize (W.alloc (.cells #[.slice A0 n0 c0, .slice A1 n1 c1, .slice A2 es.length c2] 33)).alloc (.cells #[.int .i64 11, .int .i64 arg] 166) = W1 at h2 ⊢
  obtain ⟨gs, hgs⟩ : ∃ g, W.heap.size = g := ⟨_, rfl⟩
  rw [hgs] at h2 hsub ⊢
  obtain ⟨BB, hBB⟩ : ∃ X, (gs + 1, Obj.cells #[.int .i64 11, .int .i64 arg] 166 (0, 0)) :: (gs, Obj.cells #[.slice A0 n0 c0, .slice A1 n1 c1, .slice A2 es.length c2] 33 (0, 0)) :: B = X := ⟨_, rfl⟩
  have hop : (gs + 1, Obj.cells #[.int .i64 11, .int .i64 arg] 166 (0, 0)) ∈ BB := by rw [← hBB]; exact List.mem_cons_self
  have hsp : (gs, Obj.cells #[.slice A0 n0 c0, .slice A1 n1 c1, .slice A2 es.length c2] 33 (0, 0)) ∈ BB := by rw [← hBB]; exact List.mem_cons_of_mem _ List.mem_cons_self
  rw [hBB] at h2 hsub
  clear hBB hgs
  have H0 := Lib.hid h2
  have HS := Lib.hid hsub
  clear h h2 hsub
  obtain ⟨A, c, Ao, co, y0, y1, yf, yl, z0, z1, z2, z3, z4, z5, z6, zf, zl, hk⟩ := H0.out.cells
  obtain ⟨p0, p1, pf0, pf1, pl⟩ := box2 (H0.out.kept hop)
  obtain ⟨q0, q1, q2, qf, ql⟩ := row3 (H0.out.kept hsp)
  have HP := Lib.hid hp
  clear hp
  go_upto_if 101 with (go_at_call 157; (with_reducible refine (pop_i H0.out).mono ?_); rintro e w1 ⟨v1, b1, m1, hv1, rfl, hC1, ho1⟩)
  have H1 := Lib.hid hC1
  clear hC1
  clear y0 y1 yf yl z0 z1 z2 z3 z4 z5 z6 zf zl p0 p1 pf0 pf1 pl q0 q1 q2 qf ql
  obtain ⟨A, c, Ao, co, y0, y1, yf, yl, z0, z1, z2, z3, z4, z5, z6, zf, zl, hk⟩ := H1.out.cells
  obtain ⟨p0, p1, pf0, pf1, pl⟩ := box2 (H1.out.kept hop)
  obtain ⟨q0, q1, q2, qf, ql⟩ := row3 (H1.out.kept hsp)
  by_cases hz : v1 = 0
  · subst hz
    go_upto_region 25 with (fail)
    refine region_tail 9 (by kernel_rfl) (by kernel_rfl) (fun wx hgx => ?_)
    have HX := Lib.hid (H1.out.gro hgx)
    clear y0 y1 yf yl z0 z1 z2 z3 z4 z5 z6 zf zl p0 p1 pf0 pf1 pl q0 q1 q2 qf ql
    obtain ⟨A, c, Ao, co, y0, y1, yf, yl, z0, z1, z2, z3, z4, z5, z6, zf, zl, hk⟩ := HX.out.cells
    obtain ⟨p0, p1, pf0, pf1, pl⟩ := box2 (HX.out.kept hop)
    obtain ⟨q0, q1, q2, qf, ql⟩ := row3 (HX.out.kept hsp)
    simp only [List.take_succ_cons, List.take_zero, List.drop_succ_cons, List.drop_zero]
    repeat still_step
    refine wpStill_nil ?_
    go_wp2_with (fail)
    have hC2 := HX.out.num (i := 0) (v := .int .i64 (wrap64 (m1.Pc + arg))) (m' := { m1 with Pc := wrap64 (m1.Pc + arg) }) rfl rfl ⟨hk.len, hk.out, wrap64_I (m1.Pc + arg), hk.sp, hk.fp, hk.st, hk.va⟩ (fun _ _ => rfl)
    exact bodyPost_end (v := .tuple #[]) (by simp [results, Try.results132, go_sem]) rfl ⟨rfl, _, _, (hC2.gro (by repeat (first | with_reducible exact Gro.refl _ | with_reducible exact Gro.refl_drew _ _ _ | with_reducible exact Gro.refl_drewN _ _ _ _ | assumption | with_reducible apply Gro.more | with_reducible apply Gro.alloc | with_reducible apply Gro.drew | with_reducible apply Gro.drewN))).drop HS.out, zero_opt ho1 HP.out ha⟩
  · go_wp2_with (fail)
    exact bodyPost_end (v := .tuple #[]) (by simp [results, Try.results132, go_sem]) rfl ⟨rfl, _, _, (H1.out).drop HS.out, nz_opt ho1 hz⟩
set_option maxRecDepth 100000 in
set_option maxHeartbeats 2000000 in
theorem perform_i17 {B : List (Nat × Obj)} {Y W : World} {N gc gm : Nat} {m : DMachine} {es : List Int} {A0 A1 A2 : Option Addr} {n0 n1 c0 c1 c2 : Nat} {arg : Int} (h : StI B Y W N gc gm false m) (hN : N ≤ 2000000000000) :
    Calls Try.prog 132 #[.pointer (some ⟨gc, 0, none⟩), .agg #[.slice A0 n0 c0, .slice A1 n1 c1, .slice A2 es.length c2], .agg #[.int .i64 17, .int .i64 arg]] W (ActI (fun m => performM es m 17 arg) B Y (N + 1) gc gm false m) := by
  have h2 := (h.allocB (cs := #[.slice A0 n0 c0, .slice A1 n1 c1, .slice A2 es.length c2]) (t := 33)).allocB (cs := #[.int .i64 17, .int .i64 arg]) (t := 166)
  have hsub : ∀ p ∈ B, p ∈ ((W.alloc (.cells #[.slice A0 n0 c0, .slice A1 n1 c1, .slice A2 es.length c2] 33)).heap.size, Obj.cells #[.int .i64 17, .int .i64 arg] 166 (0, 0)) :: (W.heap.size, Obj.cells #[.slice A0 n0 c0, .slice A1 n1 c1, .slice A2 es.length c2] 33 (0, 0)) :: B := fun p hp => List.mem_cons_of_mem _ (List.mem_cons_of_mem _ hp)
  go_enter Try.func132, Try.ntmps132
  go_upto_region 1 with (fail)
  rw [World.size_alloc] at h2 hsub
  generalize (W.alloc (.cells #[.slice A0 n0 c0, .slice A1 n1 c1, .slice A2 es.length c2] 33)).alloc (.cells #[.int .i64 17, .int .i64 arg] 166) = W1 at h2 ⊢
  obtain ⟨gs, hgs⟩ : ∃ g, W.heap.size = g := ⟨_, rfl⟩
  rw [hgs] at h2 hsub ⊢
  obtain ⟨BB, hBB⟩ : ∃ X, (gs + 1, Obj.cells #[.int .i64 17, .int .i64 arg] 166 (0, 0)) :: (gs, Obj.cells #[.slice A0 n0 c0, .slice A1 n1 c1, .slice A2 es.length c2] 33 (0, 0)) :: B = X := ⟨_, rfl⟩
  have hop : (gs + 1, Obj.cells #[.int .i64 17, .int .i64 arg] 166 (0, 0)) ∈ BB := by rw [← hBB]; exact List.mem_cons_self
  have hsp : (gs, Obj.cells #[.slice A0 n0 c0, .slice A1 n1 c1, .slice A2 es.length c2] 33 (0, 0)) ∈ BB := by rw [← hBB]; exact List.mem_cons_of_mem _ List.mem_cons_self
  rw [hBB] at h2 hsub
  clear hBB hgs
  have H0 := Lib.hid h2
  have HS := Lib.hid hsub
  clear h h2 hsub
  obtain ⟨A, c, Ao, co, y0, y1, yf, yl, z0, z1, z2, z3, z4, z5, z6, zf, zl, hk⟩ := H0.out.cells
  obtain ⟨p0, p1, pf0, pf1, pl⟩ := box2 (H0.out.kept hop)
  obtain ⟨q0, q1, q2, qf, ql⟩ := row3 (H0.out.kept hsp)
  have hk0 := hk
  go_upto_region 51 with (fail)
  have hlo : m.Out.length ≤ N := hk0.out
  refine region_T (fun w' => w'.cell? ⟨gm, 4, none⟩ = some (.slice Ao m.Out.length co)) 11 (by kernel_rfl) (drew_keeps z4) (fun hH => ?_)
  have hX := H0.out.gro ((Gro.refl W1).drew)
  generalize W1.drew = wx at hX hH ⊢
  have HX := Lib.hid hX
  clear hX
  clear y0 y1 yf yl z0 z1 z2 z3 z4 z5 z6 zf zl p0 p1 pf0 pf1 pl q0 q1 q2 qf ql
  obtain ⟨A, c, Ao', co', y0, y1, yf, yl, z0, z1, z2, z3, _, z5, z6, zf, zl, hk⟩ := HX.out.cells
  have z4 := hH
  refine AnyT.take (i := 0) (cs := [9, 10, 11]) rfl (by kernel_rfl) (by kernel_rfl) (by kernel_rfl) (by kernel_rfl) rfl (by kernel_rfl) (fun _ _ _ h => h) hH (by rfl) (by intro w hSw; (try dsimp only at hSw); go_simp; (try with_reducible rfl)) ?_
  try simp only [Act.put, List.setIfInBounds_toArray, List.set_cons_zero, List.set_cons_succ]
  refine AnyT.take (i := 1) (cs := [2, 3, 4, 8, 9, 10, 11]) rfl (by kernel_rfl) (by kernel_rfl) (by kernel_rfl) (by kernel_rfl) rfl (by kernel_rfl) (fun _ _ _ h => h) hH (by rfl) (by intro w hSw; (try dsimp only at hSw); go_simp; (try with_reducible rfl)) ?_
  try simp only [Act.put, List.setIfInBounds_toArray, List.set_cons_zero, List.set_cons_succ]
  refine AnyT.take (i := 2) (cs := [3, 4, 8, 9, 10, 11]) rfl (by kernel_rfl) (by kernel_rfl) (by kernel_rfl) (by kernel_rfl) rfl (by kernel_rfl) (fun _ _ _ h => h) hH (by rfl) (by intro w hSw; (try dsimp only at hSw); go_simp; (try with_reducible rfl)) ?_
  try simp only [Act.put, List.setIfInBounds_toArray, List.set_cons_zero, List.set_cons_succ]
  refine AnyT.take (i := 3) (cs := [4, 8, 9, 10, 11]) rfl (by kernel_rfl) (by kernel_rfl) (by kernel_rfl) (by kernel_rfl) rfl (by kernel_rfl) (fun _ _ _ h => h) hH (by rfl) (by intro w hSw; (try dsimp only at hSw); go_simp; (try with_reducible rfl)) ?_
  try simp only [Act.put, List.setIfInBounds_toArray, List.set_cons_zero, List.set_cons_succ]
  refine AnyT.take (i := 4) (cs := [8, 9, 10, 11]) rfl (by kernel_rfl) (by kernel_rfl) (by kernel_rfl) (by kernel_rfl) rfl (by kernel_rfl) (fun _ _ _ h => h) hH (by rfl) (by intro w hSw; (try dsimp only at hSw); go_simp; (try with_reducible rfl)) ?_
  try simp only [Act.put, List.setIfInBounds_toArray, List.set_cons_zero, List.set_cons_succ]
  refine AnyT.take (i := 5) (cs := [6, 7, 8, 9, 10, 11]) rfl (by kernel_rfl) (by kernel_rfl) (by kernel_rfl) (by kernel_rfl) rfl (by kernel_rfl) (fun _ _ _ h => h) hH (by rfl) (by intro w hSw; (try dsimp only at hSw); go_simp; (try with_reducible rfl)) ?_
  try simp only [Act.put, List.setIfInBounds_toArray, List.set_cons_zero, List.set_cons_succ]
  refine AnyT.some1 (i := 6) (by kernel_rfl) rfl (fun K hK => ?_)
  go_simp
  go_at_call 157
  refine (pop_i4 HX.out).mono ?_
  rintro e w2 ⟨⟨v1, b1, m1, hv1, rfl, hC1, ho1⟩, hK4⟩
  have hz4 := hK4 _ z4
  clear hK4
  refine hK.out _ _ hz4 ?_
  clear hK
  try simp only [Act.put, List.setIfInBounds_toArray, List.set_cons_zero, List.set_cons_succ]
  refine AnyT.some1 (i := 7) (by kernel_rfl) rfl (fun K hK => ?_)
  go_simp
  have hC3 := hC1.allocB (cs := #[.int .i64 v1]) (t := 3)
  have hz5 := alloc_keeps hz4 (.cells #[.int .i64 v1] 3)
  have en := heap_alloc_new w2 (.cells #[.int .i64 v1] 3)
  refine hK.out _ _ hz5 ?_
  clear hK
  try simp only [Act.put, List.setIfInBounds_toArray, List.set_cons_zero, List.set_cons_succ]
  obtain ⟨gn, hgn⟩ : ∃ g, w2.heap.size = g := ⟨_, rfl⟩
  rw [hgn] at hC3 en ⊢
  generalize w2.alloc (.cells #[.int .i64 v1] 3) = w3 at hC3 hz5 en ⊢
  obtain ⟨A9, c9, S9, Ao9, co9, So9, hc9⟩ := hC3
  obtain ⟨_, _, _, _, x4, _, _, _, _⟩ := row7 hc9.cpu.mach
  have x4 := x4.symm.trans hz5
  injection x4 with x4
  injection x4 with e1 e2 e3
  subst e1 e3
  have hl1 : m1.Out.length = m.Out.length := e2
  have hHo := hc9.cpu.out
  rw [hl1] at hHo
  refine AnyT.some1 (i := 8) (by kernel_rfl) rfl (fun K hK => ?_)
  refine step_append_hasf (W1 := w3) (L := m.Out.length + 1) rfl (.tmp 218) (.tmp 221) elInt flat_int hHo (ec := [.int .i64 v1]) (y := v1) (B := 0) ⟨rfl, hv1.1, hv1.2⟩ rfl rfl rfl (by intro j u hu; have hu2 := cell_of_row w3 gn j _ _ (0, 0) en; rw [hu2]; simpa using hu) rfl (by omega) (by omega) ?_
  intro A7 c7 W7 S7 hon hH7 hS7
  have hz7 := (hon.cell (Array.getElem?_eq_some_iff.1 hc9.cpu.mach).1 hc9.cpu.cs.2.2.2 4).trans hz5
  have x7 := (hon.block gm (Array.getElem?_eq_some_iff.1 hc9.cpu.mach).1 hc9.cpu.cs.2.2.2).trans hc9.cpu.mach
  obtain ⟨_, _, _, _, _, _, _, zf7, zl7⟩ := row7 x7
  refine hK.out _ _ hz7 ?_
  clear hK
  try simp only [Act.put, List.setIfInBounds_toArray, List.set_cons_zero, List.set_cons_succ]
  have hH := hz7
  refine AnyT.take (i := 9) (cs := [10, 11]) rfl (by kernel_rfl) (by kernel_rfl) (by kernel_rfl) (by kernel_rfl) rfl (by kernel_rfl) (fun _ _ _ h => h) hz7 (by rfl) (by intro w hSw; (try dsimp only at hSw); go_simp; (try with_reducible rfl)) ?_
  try simp only [Act.put, List.setIfInBounds_toArray, List.set_cons_zero, List.set_cons_succ]
  refine AnyT.take (i := 10) (cs := [11]) rfl (by kernel_rfl) (by kernel_rfl) (by kernel_rfl) (by kernel_rfl) rfl (by kernel_rfl) (fun _ _ _ h => h) hz7 (by rfl) (by intro w hSw; (try dsimp only at hSw); go_simp; (try with_reducible rfl)) ?_
  try simp only [Act.put, List.setIfInBounds_toArray, List.set_cons_zero, List.set_cons_succ]
  refine AnyT.last (by kernel_rfl) rfl (by kernel_rfl) (fun K hK => ?_)
  go_simp
  refine hK.out _ _ ?_
  clear hK
  try simp only [Act.put, List.setIfInBounds_toArray, List.set_cons_zero, List.set_cons_succ]
  rw [← hl1] at hH7
  have hc10 := hc9.app hon hH7 hS7
  rw [hl1] at hc10
  have hC5 : StI BB Y (W7.setCell ⟨gm, 4, none⟩ (.slice A7 (m.Out.length + 1) c7)) (N + 1) gc gm b1 { m1 with Out := m1.Out ++ [v1] } := StI.drop ⟨_, _, _, _, _, _, hc10⟩ (fun p hp => List.mem_cons_of_mem _ hp)
  go_wp2_with (fail)
  exact bodyPost_end (v := .tuple #[]) (by simp [results, Try.results132, go_sem]) rfl ⟨rfl, _, _, (hC5).drop HS.out, out_opt ho1⟩
theorem StI.up {B : List (Nat × Obj)} {Y W : World} {N gc gm : Nat} {bad : Bool} {m : DMachine} (h : StI B Y W N gc gm bad m) : StI B Y W (N + 1) gc gm bad m := by
  obtain ⟨A, c, S, Ao, co, So, h⟩ := h
  exact ⟨A, c, S, Ao, co, So, h.cpu, ⟨h.ok.len, by have := h.ok.out; omega, h.ok.pc, h.ok.sp, h.ok.fp, h.ok.st, h.ok.va⟩, h.gro, h.lc, h.lm, h.ls, h.lo, h.kb⟩
theorem ActI.up {f : DMachine → Option DMachine} {B : List (Nat × Obj)} {Y : World} {N gc gm : Nat} {bad : Bool} {m : DMachine} {r : Ending} {W' : World} (h : ActI f B Y N gc gm bad m r W') : ActI f B Y (N + 1) gc gm bad m r W' := by
  obtain ⟨h1, b, m', h2, h3⟩ := h
  exact ⟨h1, b, m', h2.up, h3⟩
/-- an instruction's argument by its code -/
def ArgOk (code arg : Int) : Prop := (code = 1 ∨ code = 2 ∨ code = 3 ∨ code = 4 ∨ code = 10 ∨ code = 11 → -32768 ≤ arg ∧ arg ≤ 32767) ∧ (code = 16 → 0 ≤ arg ∧ arg ≤ 65535) ∧ (code = 12 ∨ code = 13 ∨ code = 14 ∨ code = 15 → 0 ≤ arg ∧ arg ≤ 255)
theorem perform_i {B : List (Nat × Obj)} {Y W : World} {N gc gm : Nat} {m : DMachine} {es : List Int} {A0 A1 A2 : Option Addr} {n0 n1 c0 c1 c2 : Nat} {code arg : Int} (h : StI B Y W N gc gm false m) (he : (intT.sl 3).R Y Y.heap.size [.slice A2 es.length c2] es) (hes : es.length ≤ 9223372036854775807) (hN : N ≤ 2000000000000)
    (hp : -4611686018427387904 ≤ m.Pc ∧ m.Pc ≤ 4611686018427387904) (hc : 0 ≤ code ∧ code ≤ 17) (hb : ArgOk code arg) (hI : I64 arg) :
    Calls Try.prog 132 #[.pointer (some ⟨gc, 0, none⟩), .agg #[.slice A0 n0 c0, .slice A1 n1 c1, .slice A2 es.length c2], .agg #[.int .i64 code, .int .i64 arg]] W (ActI (fun m => performM es m code arg) B Y (N + 1) gc gm false m) := by
  have up : ∀ r W', ActI (fun m => performM es m code arg) B Y N gc gm false m r W' → ActI (fun m => performM es m code arg) B Y (N + 1) gc gm false m r W' := fun _ _ h => h.up
  have hk : code = 0 ∨ code = 1 ∨ code = 2 ∨ code = 3 ∨ code = 4 ∨ code = 5 ∨ code = 6 ∨ code = 7 ∨ code = 8 ∨ code = 9 ∨ code = 10 ∨ code = 11 ∨ code = 12 ∨ code = 13 ∨ code = 14 ∨ code = 15 ∨ code = 16 ∨ code = 17 := by omega
  rcases hk with rfl | rfl | rfl | rfl | rfl | rfl | rfl | rfl | rfl | rfl | rfl | rfl | rfl | rfl | rfl | rfl | rfl | rfl
  · exact (perform_i0 h hI).mono up
  · exact (perform_i1 h (hb.1 (by omega))).mono up
  · exact (perform_i2 h (hb.1 (by omega))).mono up
  · exact (perform_i3 h (hb.1 (by omega))).mono up
  · exact (perform_i4 h (hb.1 (by omega))).mono up
  · exact (perform_i5 h).mono up
  · exact (perform_i6 h).mono up
  · exact (perform_i7 h).mono up
  · exact (perform_i8 h).mono up
  · exact (perform_i9 h).mono up
  · exact (perform_i10 h hp (hb.1 (by omega))).mono up
  · exact (perform_i11 h hp (hb.1 (by omega))).mono up
  · exact (perform_i12 h he hes (hb.2.2 (by omega))).mono up
  · exact (perform_i13 h (hb.2.2 (by omega))).mono up
  · exact (perform_i14 h (hb.2.2 (by omega))).mono up
  · exact (perform_i15 h (hb.2.2 (by omega))).mono up
  · exact (perform_i16 h (hb.2.1 rfl)).mono up
  · exact perform_i17 h hN
end Go.Proofs.Ytbhobjepjaeffaa
namespace Go.Proofs.Ytbhobjepjaeffaa
open Go.RowKit
set_option maxRecDepth 100000 in
set_option maxHeartbeats 2000000 in
theorem perform_s0 {B : List (Nat × Obj)} {Y W : World} {N gc : Nat} {m m0 : DMachine} {es : List Int} {A0 A1 A2 : Option Addr} {n0 n1 c0 c1 c2 n : Nat} {arg : Int} (h : StS B Y W N gc false m) (hm0 : ({ m with Pc := m.Pc + (n : Int) } : DMachine) = m0) (hp : -1152921504606846976 ≤ m.Pc ∧ m.Pc ≤ 1152921504606846976) (hn : n ≤ 5) (ha : I64 arg) :
    Calls Try.prog 128 #[.agg #[.slice A0 n0 c0, .slice A1 n1 c1, .slice A2 es.length c2], .pointer (some ⟨gc, 0, none⟩), .agg #[.int .i64 0, .int .i64 arg], .int .i64 n] W (ActS (fun m => performM es m 0 arg) B Y N gc false m0) := by
  have h2 := (h.allocB (cs := #[.slice A0 n0 c0, .slice A1 n1 c1, .slice A2 es.length c2]) (t := 33)).allocB (cs := #[.int .i64 0, .int .i64 arg]) (t := 166)
  have hsub : ∀ p ∈ B, p ∈ ((W.alloc (.cells #[.slice A0 n0 c0, .slice A1 n1 c1, .slice A2 es.length c2] 33)).heap.size, Obj.cells #[.int .i64 0, .int .i64 arg] 166 (0, 0)) :: (W.heap.size, Obj.cells #[.slice A0 n0 c0, .slice A1 n1 c1, .slice A2 es.length c2] 33 (0, 0)) :: B := fun p hp => List.mem_cons_of_mem _ (List.mem_cons_of_mem _ hp)
  obtain ⟨spv, hspv⟩ : ∃ v, m.Sp = v := ⟨_, rfl⟩
  have hwp : wrap64 (m.Pc + (n : Int)) = m.Pc + (n : Int) := wrap64_small (by omega) (by omega)
  have hipc : I64 (m.Pc + (n : Int)) := ⟨by omega, by omega⟩
  go_enter Try.func128, Try.ntmps128
  go_upto_region 1 with (fail)
  rw [World.size_alloc] at h2 hsub
  generalize (W.alloc (.cells #[.slice A0 n0 c0, .slice A1 n1 c1, .slice A2 es.length c2] 33)).alloc (.cells #[.int .i64 0, .int .i64 arg] 166) = W1 at h2 ⊢
  obtain ⟨gs, hgs⟩ : ∃ g, W.heap.size = g := ⟨_, rfl⟩
  rw [hgs] at h2 hsub ⊢
  obtain ⟨BB, hBB⟩ : ∃ X, (gs + 1, Obj.cells #[.int .i64 0, .int .i64 arg] 166 (0, 0)) :: (gs, Obj.cells #[.slice A0 n0 c0, .slice A1 n1 c1, .slice A2 es.length c2] 33 (0, 0)) :: B = X := ⟨_, rfl⟩
  have hop : (gs + 1, Obj.cells #[.int .i64 0, .int .i64 arg] 166 (0, 0)) ∈ BB := by rw [← hBB]; exact List.mem_cons_self
  have hsp : (gs, Obj.cells #[.slice A0 n0 c0, .slice A1 n1 c1, .slice A2 es.length c2] 33 (0, 0)) ∈ BB := by rw [← hBB]; exact List.mem_cons_of_mem _ List.mem_cons_self
  rw [hBB] at h2 hsub
  clear hBB hgs
  have H9 := Lib.hid h2
  have HS := Lib.hid hsub
  clear h h2 hsub
  obtain ⟨A, c, Ao, co, z0, z1, z2, z3, z4, z5, z6, z7, zf, zl, hk⟩ := H9.out.cells
  obtain ⟨p0, p1, pf0, pf1, pl⟩ := box2 (H9.out.kept hop)
  obtain ⟨q0, q1, q2, qf, ql⟩ := row3 (H9.out.kept hsp)
  go_upto_region 3 with (fail)
  have hC0 := H9.out.num (i := 0) (v := .int .i64 (m.Pc + (n : Int))) (bad' := false) (m' := { m with Pc := m.Pc + (n : Int) }) rfl rfl ⟨hk.len, hk.out, hipc, hk.sp, hk.fp, hk.st, hk.va⟩ (fun _ _ => rfl)
  have hpb : -4611686018427387904 ≤ ({ m with Pc := m.Pc + (n : Int) } : DMachine).Pc ∧ ({ m with Pc := m.Pc + (n : Int) } : DMachine).Pc ≤ 4611686018427387904 := ⟨by show _ ≤ m.Pc + (n : Int); omega, by show m.Pc + (n : Int) ≤ _; omega⟩
  have hs0 : ({ m with Pc := m.Pc + (n : Int) } : DMachine).Sp = spv := hspv
  rw [hm0] at hC0 hpb hs0
  generalize W1.setCell ⟨gc, 0, none⟩ (.int .i64 (m.Pc + (n : Int))) = w0 at hC0 ⊢
  have HB := Lib.hid hpb
  have HSP := Lib.hid hs0
  clear hspv hwp hipc hpb hs0 H9 hk hp hn
  have H0 := Lib.hid hC0
  clear hC0
  clear z0 z1 z2 z3 z4 z5 z6 z7 zf zl p0 p1 pf0 pf1 pl q0 q1 q2 qf ql
  obtain ⟨A, c, Ao, co, z0, z1, z2, z3, z4, z5, z6, z7, zf, zl, hk⟩ := H0.out.cells
  obtain ⟨p0, p1, pf0, pf1, pl⟩ := box2 (H0.out.kept hop)
  obtain ⟨q0, q1, q2, qf, ql⟩ := row3 (H0.out.kept hsp)
  go_wp2_with (go_at_call 145; (with_reducible refine (push_s H0.out ha).mono ?_); rintro e w1 ⟨rfl, b1, m1, hC1, ho1⟩)
  exact bodyPost_end (v := .tuple #[]) (by simp [results, Try.results128, go_sem]) rfl ⟨rfl, _, _, (hC1).drop HS.out, ho1⟩
set_option maxRecDepth 100000 in
set_option maxHeartbeats 2000000 in
theorem perform_s1 {B : List (Nat × Obj)} {Y W : World} {N gc : Nat} {m m0 : DMachine} {es : List Int} {A0 A1 A2 : Option Addr} {n0 n1 c0 c1 c2 n : Nat} {arg : Int} (h : StS B Y W N gc false m) (hm0 : ({ m with Pc := m.Pc + (n : Int) } : DMachine) = m0) (hp : -1152921504606846976 ≤ m.Pc ∧ m.Pc ≤ 1152921504606846976) (hn : n ≤ 5) (ha : -32768 ≤ arg ∧ arg ≤ 32767) :
    Calls Try.prog 128 #[.agg #[.slice A0 n0 c0, .slice A1 n1 c1, .slice A2 es.length c2], .pointer (some ⟨gc, 0, none⟩), .agg #[.int .i64 1, .int .i64 arg], .int .i64 n] W (ActS (fun m => performM es m 1 arg) B Y N gc false m0) := by
  have h2 := (h.allocB (cs := #[.slice A0 n0 c0, .slice A1 n1 c1, .slice A2 es.length c2]) (t := 33)).allocB (cs := #[.int .i64 1, .int .i64 arg]) (t := 166)
  have hsub : ∀ p ∈ B, p ∈ ((W.alloc (.cells #[.slice A0 n0 c0, .slice A1 n1 c1, .slice A2 es.length c2] 33)).heap.size, Obj.cells #[.int .i64 1, .int .i64 arg] 166 (0, 0)) :: (W.heap.size, Obj.cells #[.slice A0 n0 c0, .slice A1 n1 c1, .slice A2 es.length c2] 33 (0, 0)) :: B := fun p hp => List.mem_cons_of_mem _ (List.mem_cons_of_mem _ hp)
  obtain ⟨spv, hspv⟩ : ∃ v, m.Sp = v := ⟨_, rfl⟩
  have hwp : wrap64 (m.Pc + (n : Int)) = m.Pc + (n : Int) := wrap64_small (by omega) (by omega)
  have hipc : I64 (m.Pc + (n : Int)) := ⟨by omega, by omega⟩
  go_enter Try.func128, Try.ntmps128
  go_upto_region 1 with (fail)
  rw [World.size_alloc] at h2 hsub
  generalize (W.alloc (.cells #[.slice A0 n0 c0, .slice A1 n1 c1, .slice A2 es.length c2] 33)).alloc (.cells #[.int .i64 1, .int .i64 arg] 166) = W1 at h2 ⊢
  obtain ⟨gs, hgs⟩ : ∃ g, W.heap.size = g := ⟨_, rfl⟩
  rw [hgs] at h2 hsub ⊢
  obtain ⟨BB, hBB⟩ : ∃ X, (gs + 1, Obj.cells #[.int .i64 1, .int .i64 arg] 166 (0, 0)) :: (gs, Obj.cells #[.slice A0 n0 c0, .slice A1 n1 c1, .slice A2 es.length c2] 33 (0, 0)) :: B = X := ⟨_, rfl⟩
  have hop : (gs + 1, Obj.cells #[.int .i64 1, .int .i64 arg] 166 (0, 0)) ∈ BB := by rw [← hBB]; exact List.mem_cons_self
  have hsp : (gs, Obj.cells #[.slice A0 n0 c0, .slice A1 n1 c1, .slice A2 es.length c2] 33 (0, 0)) ∈ BB := by rw [← hBB]; exact List.mem_cons_of_mem _ List.mem_cons_self
  rw [hBB] at h2 hsub
  clear hBB hgs
  have H9 := Lib.hid h2
  have HS := Lib.hid hsub
  clear h h2 hsub
  obtain ⟨A, c, Ao, co, z0, z1, z2, z3, z4, z5, z6, z7, zf, zl, hk⟩ := H9.out.cells
  obtain ⟨p0, p1, pf0, pf1, pl⟩ := box2 (H9.out.kept hop)
  obtain ⟨q0, q1, q2, qf, ql⟩ := row3 (H9.out.kept hsp)
  go_upto_region 3 with (fail)
  have hC0 := H9.out.num (i := 0) (v := .int .i64 (m.Pc + (n : Int))) (bad' := false) (m' := { m with Pc := m.Pc + (n : Int) }) rfl rfl ⟨hk.len, hk.out, hipc, hk.sp, hk.fp, hk.st, hk.va⟩ (fun _ _ => rfl)
  have hpb : -4611686018427387904 ≤ ({ m with Pc := m.Pc + (n : Int) } : DMachine).Pc ∧ ({ m with Pc := m.Pc + (n : Int) } : DMachine).Pc ≤ 4611686018427387904 := ⟨by show _ ≤ m.Pc + (n : Int); omega, by show m.Pc + (n : Int) ≤ _; omega⟩
  have hs0 : ({ m with Pc := m.Pc + (n : Int) } : DMachine).Sp = spv := hspv
  rw [hm0] at hC0 hpb hs0
  generalize W1.setCell ⟨gc, 0, none⟩ (.int .i64 (m.Pc + (n : Int))) = w0 at hC0 ⊢
  have HB := Lib.hid hpb
  have HSP := Lib.hid hs0
  clear hspv hwp hipc hpb hs0 H9 hk hp hn
  have H0 := Lib.hid hC0
  clear hC0
  clear z0 z1 z2 z3 z4 z5 z6 z7 zf zl p0 p1 pf0 pf1 pl q0 q1 q2 qf ql
  obtain ⟨A, c, Ao, co, z0, z1, z2, z3, z4, z5, z6, z7, zf, zl, hk⟩ := H0.out.cells
  obtain ⟨p0, p1, pf0, pf1, pl⟩ := box2 (H0.out.kept hop)
  obtain ⟨q0, q1, q2, qf, ql⟩ := row3 (H0.out.kept hsp)
  go_upto_region 10 with (fail)
  refine region_T (fun w' => w'.cell? ⟨gc, 2, none⟩ = some (.int .i64 m0.Fp) ∧ w'.cell? ⟨gs + 1, 1, none⟩ = some (.int .i64 arg)) 11 (by kernel_rfl) (And.intro (drew_keeps z2) (drew_keeps p1)) (fun hH => ?_)
  have hX := H0.out.gro ((Gro.refl w0).drew)
  generalize w0.drew = wx at hX hH ⊢
  have HX := Lib.hid hX
  clear hX
  obtain ⟨hH1, hH2⟩ := hH
  have hH := And.intro hH1 hH2
  refine AnyT.take (i := 0) (cs := [11]) rfl (by kernel_rfl) (by kernel_rfl) (by kernel_rfl) (by kernel_rfl) rfl (by kernel_rfl) (fun _ _ _ h => h) hH (by rfl) (by intro w hSw; (try dsimp only at hSw); go_simp; (try with_reducible rfl)) ?_
  try simp only [Act.put, List.setIfInBounds_toArray, List.set_cons_zero, List.set_cons_succ]
  refine AnyT.take (i := 1) (cs := [10, 11]) rfl (by kernel_rfl) (by kernel_rfl) (by kernel_rfl) (by kernel_rfl) rfl (by kernel_rfl) (fun _ _ _ h => h) hH (by rfl) (by intro w hSw; (try dsimp only at hSw); go_simp; (try with_reducible rfl)) ?_
  try simp only [Act.put, List.setIfInBounds_toArray, List.set_cons_zero, List.set_cons_succ]
  refine AnyT.take (i := 2) (cs := [3, 4, 5, 6, 9, 10, 11]) rfl (by kernel_rfl) (by kernel_rfl) (by kernel_rfl) (by kernel_rfl) rfl (by kernel_rfl) (fun _ _ _ h => h) hH (by rfl) (by intro w hSw; (try dsimp only at hSw); go_simp; (try with_reducible rfl)) ?_
  try simp only [Act.put, List.setIfInBounds_toArray, List.set_cons_zero, List.set_cons_succ]
  refine AnyT.take (i := 3) (cs := [4, 5, 6, 9, 10, 11]) rfl (by kernel_rfl) (by kernel_rfl) (by kernel_rfl) (by kernel_rfl) rfl (by kernel_rfl) (fun _ _ _ h => h) hH (by rfl) (by intro w hSw; (try dsimp only at hSw); go_simp; (try with_reducible rfl)) ?_
  try simp only [Act.put, List.setIfInBounds_toArray, List.set_cons_zero, List.set_cons_succ]
  refine AnyT.take (i := 4) (cs := [5, 6, 9, 10, 11]) rfl (by kernel_rfl) (by kernel_rfl) (by kernel_rfl) (by kernel_rfl) rfl (by kernel_rfl) (fun _ _ _ h => h) hH (by rfl) (by intro w hSw; (try dsimp only at hSw); go_simp; (try with_reducible rfl)) ?_
  try simp only [Act.put, List.setIfInBounds_toArray, List.set_cons_zero, List.set_cons_succ]
  refine AnyT.take (i := 5) (cs := [6, 9, 10, 11]) rfl (by kernel_rfl) (by kernel_rfl) (by kernel_rfl) (by kernel_rfl) rfl (by kernel_rfl) (fun _ _ _ h => h) hH (by rfl) (by intro w hSw; (try dsimp only at hSw); go_simp; (try with_reducible rfl)) ?_
  try simp only [Act.put, List.setIfInBounds_toArray, List.set_cons_zero, List.set_cons_succ]
  refine AnyT.take (i := 6) (cs := [9, 10, 11]) rfl (by kernel_rfl) (by kernel_rfl) (by kernel_rfl) (by kernel_rfl) rfl (by kernel_rfl) (fun _ _ _ h => h) hH (by rfl) (by intro w hSw; (try dsimp only at hSw); go_simp; (try with_reducible rfl)) ?_
  try simp only [Act.put, List.setIfInBounds_toArray, List.set_cons_zero, List.set_cons_succ]
  refine AnyT.take (i := 7) (cs := [8, 9, 10, 11]) rfl (by kernel_rfl) (by kernel_rfl) (by kernel_rfl) (by kernel_rfl) rfl (by kernel_rfl) (fun _ _ _ h => h) hH (by rfl) (by intro w hSw; (try dsimp only at hSw); go_simp; (try with_reducible rfl)) ?_
  try simp only [Act.put, List.setIfInBounds_toArray, List.set_cons_zero, List.set_cons_succ]
  refine AnyT.take (i := 8) (cs := [9, 10, 11]) rfl (by kernel_rfl) (by kernel_rfl) (by kernel_rfl) (by kernel_rfl) rfl (by kernel_rfl) (fun _ _ _ h => h) hH (by rfl) (by intro w hSw; (try dsimp only at hSw); go_simp; (try with_reducible rfl)) ?_
  try simp only [Act.put, List.setIfInBounds_toArray, List.set_cons_zero, List.set_cons_succ]
  refine AnyT.some1 (i := 9) (by kernel_rfl) rfl (fun K hK => ?_)
  go_simp
  go_at_call 146
  refine (near_s m0.Fp arg wx ha).mono ?_
  rintro e w1 ⟨rfl, rfl⟩
  refine hK.out _ _ hH ?_
  clear hK
  try simp only [Act.put, List.setIfInBounds_toArray, List.set_cons_zero, List.set_cons_succ]
  refine AnyT.some1 (i := 10) (by kernel_rfl) rfl (fun K hK => ?_)
  go_simp
  go_at_call 129
  refine (word_s4 HX.out).mono ?_
  rintro e w2 ⟨⟨v2, hv2, rfl, hC2, hW2⟩, hK4⟩
  have hz2 := hK4 2 _ (by omega) (by omega) hH1
  have hz3 := (box2 (hC2.kept hop)).2.1
  refine hK.out _ _ (And.intro hz2 hz3) ?_
  clear hK
  try simp only [Act.put, List.setIfInBounds_toArray, List.set_cons_zero, List.set_cons_succ]
  refine AnyT.last (by kernel_rfl) rfl (by kernel_rfl) (fun K hK => ?_)
  go_simp
  go_at_call 145
  refine (push_s hC2 hv2).mono ?_
  rintro e w3 ⟨rfl, b3, m3, hC3, ho3⟩
  refine hK.out _ _ ?_
  clear hK
  try simp only [Act.put, List.setIfInBounds_toArray, List.set_cons_zero, List.set_cons_succ]
  go_wp2_with (fail)
  exact bodyPost_end (v := .tuple #[]) (by simp [results, Try.results128, go_sem]) rfl ⟨rfl, _, _, (hC3).drop HS.out, by rw [word_opt hW2 ho3]; show (cAt m0 _).bind _ = _; rw [cAt_near ha]; rfl⟩
set_option maxRecDepth 100000 in
set_option maxHeartbeats 2000000 in
theorem perform_s3 {B : List (Nat × Obj)} {Y W : World} {N gc : Nat} {m m0 : DMachine} {es : List Int} {A0 A1 A2 : Option Addr} {n0 n1 c0 c1 c2 n : Nat} {arg : Int} (h : StS B Y W N gc false m) (hm0 : ({ m with Pc := m.Pc + (n : Int) } : DMachine) = m0) (hp : -1152921504606846976 ≤ m.Pc ∧ m.Pc ≤ 1152921504606846976) (hn : n ≤ 5) (ha : -32768 ≤ arg ∧ arg ≤ 32767) :
    Calls Try.prog 128 #[.agg #[.slice A0 n0 c0, .slice A1 n1 c1, .slice A2 es.length c2], .pointer (some ⟨gc, 0, none⟩), .agg #[.int .i64 3, .int .i64 arg], .int .i64 n] W (ActS (fun m => performM es m 3 arg) B Y N gc false m0) := by
  have h2 := (h.allocB (cs := #[.slice A0 n0 c0, .slice A1 n1 c1, .slice A2 es.length c2]) (t := 33)).allocB (cs := #[.int .i64 3, .int .i64 arg]) (t := 166)
  have hsub : ∀ p ∈ B, p ∈ ((W.alloc (.cells #[.slice A0 n0 c0, .slice A1 n1 c1, .slice A2 es.length c2] 33)).heap.size, Obj.cells #[.int .i64 3, .int .i64 arg] 166 (0, 0)) :: (W.heap.size, Obj.cells #[.slice A0 n0 c0, .slice A1 n1 c1, .slice A2 es.length c2] 33 (0, 0)) :: B := fun p hp => List.mem_cons_of_mem _ (List.mem_cons_of_mem _ hp)
  obtain ⟨spv, hspv⟩ : ∃ v, m.Sp = v := ⟨_, rfl⟩
  have hwp : wrap64 (m.Pc + (n : Int)) = m.Pc + (n : Int) := wrap64_small (by omega) (by omega)
  have hipc : I64 (m.Pc + (n : Int)) := ⟨by omega, by omega⟩
  go_enter Try.func128, Try.ntmps128
  go_upto_region 1 with (fail)
  rw [World.size_alloc] at h2 hsub
  generalize (W.alloc (.cells #[.slice A0 n0 c0, .slice A1 n1 c1, .slice A2 es.length c2] 33)).alloc (.cells #[.int .i64 3, .int .i64 arg] 166) = W1 at h2 ⊢
  obtain ⟨gs, hgs⟩ : ∃ g, W.heap.size = g := ⟨_, rfl⟩
  rw [hgs] at h2 hsub ⊢
  obtain ⟨BB, hBB⟩ : ∃ X, (gs + 1, Obj.cells #[.int .i64 3, .int .i64 arg] 166 (0, 0)) :: (gs, Obj.cells #[.slice A0 n0 c0, .slice A1 n1 c1, .slice A2 es.length c2] 33 (0, 0)) :: B = X := ⟨_, rfl⟩
  have hop : (gs + 1, Obj.cells #[.int .i64 3, .int .i64 arg] 166 (0, 0)) ∈ BB := by rw [← hBB]; exact List.mem_cons_self
  have hsp : (gs, Obj.cells #[.slice A0 n0 c0, .slice A1 n1 c1, .slice A2 es.length c2] 33 (0, 0)) ∈ BB := by rw [← hBB]; exact List.mem_cons_of_mem _ List.mem_cons_self
  rw [hBB] at h2 hsub
  clear hBB hgs
  have H9 := Lib.hid h2
  have HS := Lib.hid hsub
  clear h h2 hsub
  obtain ⟨A, c, Ao, co, z0, z1, z2, z3, z4, z5, z6, z7, zf, zl, hk⟩ := H9.out.cells
  obtain ⟨p0, p1, pf0, pf1, pl⟩ := box2 (H9.out.kept hop)
  obtain ⟨q0, q1, q2, qf, ql⟩ := row3 (H9.out.kept hsp)
  go_upto_region 3 with (fail)
  have hC0 := H9.out.num (i := 0) (v := .int .i64 (m.Pc + (n : Int))) (bad' := false) (m' := { m with Pc := m.Pc + (n : Int) }) rfl rfl ⟨hk.len, hk.out, hipc, hk.sp, hk.fp, hk.st, hk.va⟩ (fun _ _ => rfl)
  have hpb : -4611686018427387904 ≤ ({ m with Pc := m.Pc + (n : Int) } : DMachine).Pc ∧ ({ m with Pc := m.Pc + (n : Int) } : DMachine).Pc ≤ 4611686018427387904 := ⟨by show _ ≤ m.Pc + (n : Int); omega, by show m.Pc + (n : Int) ≤ _; omega⟩
  have hs0 : ({ m with Pc := m.Pc + (n : Int) } : DMachine).Sp = spv := hspv
  rw [hm0] at hC0 hpb hs0
  generalize W1.setCell ⟨gc, 0, none⟩ (.int .i64 (m.Pc + (n : Int))) = w0 at hC0 ⊢
  have HB := Lib.hid hpb
  have HSP := Lib.hid hs0
  clear hspv hwp hipc hpb hs0 H9 hk hp hn
  have H0 := Lib.hid hC0
  clear hC0
  clear z0 z1 z2 z3 z4 z5 z6 z7 zf zl p0 p1 pf0 pf1 pl q0 q1 q2 qf ql
  obtain ⟨A, c, Ao, co, z0, z1, z2, z3, z4, z5, z6, z7, zf, zl, hk⟩ := H0.out.cells
  obtain ⟨p0, p1, pf0, pf1, pl⟩ := box2 (H0.out.kept hop)
  obtain ⟨q0, q1, q2, qf, ql⟩ := row3 (H0.out.kept hsp)
  have hsi := hk.sp
  rw [HSP.out] at hsi
  go_wp2_with (first | (go_at_call 129; (with_reducible refine (word_s H0.out).mono ?_); rintro e w2 ⟨v2, hv2, rfl, hC2, hW2⟩) | (go_at_call 145; (with_reducible refine (push_s hC2 hv2).mono ?_); rintro e w3 ⟨rfl, b3, m3, hC3, ho3⟩))
  exact bodyPost_end (v := .tuple #[]) (by simp [results, Try.results128, go_sem]) rfl ⟨rfl, _, _, (hC3).drop HS.out, by rw [word_opt hW2 ho3]; show (cAt m0 _).bind _ = (cAt m0 (m0.Sp + arg)).bind _; rw [cAt_wrap hsi ha, HSP.out]⟩
set_option maxRecDepth 100000 in
set_option maxHeartbeats 2000000 in
theorem perform_s2 {B : List (Nat × Obj)} {Y W : World} {N gc : Nat} {m m0 : DMachine} {es : List Int} {A0 A1 A2 : Option Addr} {n0 n1 c0 c1 c2 n : Nat} {arg : Int} (h : StS B Y W N gc false m) (hm0 : ({ m with Pc := m.Pc + (n : Int) } : DMachine) = m0) (hp : -1152921504606846976 ≤ m.Pc ∧ m.Pc ≤ 1152921504606846976) (hn : n ≤ 5) (ha : -32768 ≤ arg ∧ arg ≤ 32767) :
    Calls Try.prog 128 #[.agg #[.slice A0 n0 c0, .slice A1 n1 c1, .slice A2 es.length c2], .pointer (some ⟨gc, 0, none⟩), .agg #[.int .i64 2, .int .i64 arg], .int .i64 n] W (ActS (fun m => performM es m 2 arg) B Y N gc false m0) := by
  have h2 := (h.allocB (cs := #[.slice A0 n0 c0, .slice A1 n1 c1, .slice A2 es.length c2]) (t := 33)).allocB (cs := #[.int .i64 2, .int .i64 arg]) (t := 166)
  have hsub : ∀ p ∈ B, p ∈ ((W.alloc (.cells #[.slice A0 n0 c0, .slice A1 n1 c1, .slice A2 es.length c2] 33)).heap.size, Obj.cells #[.int .i64 2, .int .i64 arg] 166 (0, 0)) :: (W.heap.size, Obj.cells #[.slice A0 n0 c0, .slice A1 n1 c1, .slice A2 es.length c2] 33 (0, 0)) :: B := fun p hp => List.mem_cons_of_mem _ (List.mem_cons_of_mem _ hp)
  obtain ⟨spv, hspv⟩ : ∃ v, m.Sp = v := ⟨_, rfl⟩
  have hwp : wrap64 (m.Pc + (n : Int)) = m.Pc + (n : Int) := wrap64_small (by omega) (by omega)
  have hipc : I64 (m.Pc + (n : Int)) := ⟨by omega, by omega⟩
  go_enter Try.func128, Try.ntmps128
  go_upto_region 1 with (fail)
  rw [World.size_alloc] at h2 hsub
  generalize (W.alloc (.cells #[.slice A0 n0 c0, .slice A1 n1 c1, .slice A2 es.length c2] 33)).alloc (.cells #[.int .i64 2, .int .i64 arg] 166) = W1 at h2 ⊢
  obtain ⟨gs, hgs⟩ : ∃ g, W.heap.size = g := ⟨_, rfl⟩
  rw [hgs] at h2 hsub ⊢
  obtain ⟨BB, hBB⟩ : ∃ X, (gs + 1, Obj.cells #[.int .i64 2, .int .i64 arg] 166 (0, 0)) :: (gs, Obj.cells #[.slice A0 n0 c0, .slice A1 n1 c1, .slice A2 es.length c2] 33 (0, 0)) :: B = X := ⟨_, rfl⟩
  have hop : (gs + 1, Obj.cells #[.int .i64 2, .int .i64 arg] 166 (0, 0)) ∈ BB := by rw [← hBB]; exact List.mem_cons_self
  have hsp : (gs, Obj.cells #[.slice A0 n0 c0, .slice A1 n1 c1, .slice A2 es.length c2] 33 (0, 0)) ∈ BB := by rw [← hBB]; exact List.mem_cons_of_mem _ List.mem_cons_self
  rw [hBB] at h2 hsub
  clear hBB hgs
  have H9 := Lib.hid h2
  have HS := Lib.hid hsub
  clear h h2 hsub
  obtain ⟨A, c, Ao, co, z0, z1, z2, z3, z4, z5, z6, z7, zf, zl, hk⟩ := H9.out.cells
  obtain ⟨p0, p1, pf0, pf1, pl⟩ := box2 (H9.out.kept hop)
  obtain ⟨q0, q1, q2, qf, ql⟩ := row3 (H9.out.kept hsp)
  go_upto_region 3 with (fail)
  have hC0 := H9.out.num (i := 0) (v := .int .i64 (m.Pc + (n : Int))) (bad' := false) (m' := { m with Pc := m.Pc + (n : Int) }) rfl rfl ⟨hk.len, hk.out, hipc, hk.sp, hk.fp, hk.st, hk.va⟩ (fun _ _ => rfl)
  have hpb : -4611686018427387904 ≤ ({ m with Pc := m.Pc + (n : Int) } : DMachine).Pc ∧ ({ m with Pc := m.Pc + (n : Int) } : DMachine).Pc ≤ 4611686018427387904 := ⟨by show _ ≤ m.Pc + (n : Int); omega, by show m.Pc + (n : Int) ≤ _; omega⟩
  have hs0 : ({ m with Pc := m.Pc + (n : Int) } : DMachine).Sp = spv := hspv
  rw [hm0] at hC0 hpb hs0
  generalize W1.setCell ⟨gc, 0, none⟩ (.int .i64 (m.Pc + (n : Int))) = w0 at hC0 ⊢
  have HB := Lib.hid hpb
  have HSP := Lib.hid hs0
  clear hspv hwp hipc hpb hs0 H9 hk hp hn
  have H0 := Lib.hid hC0
  clear hC0
  clear z0 z1 z2 z3 z4 z5 z6 z7 zf zl p0 p1 pf0 pf1 pl q0 q1 q2 qf ql
  obtain ⟨A, c, Ao, co, z0, z1, z2, z3, z4, z5, z6, z7, zf, zl, hk⟩ := H0.out.cells
  obtain ⟨p0, p1, pf0, pf1, pl⟩ := box2 (H0.out.kept hop)
  obtain ⟨q0, q1, q2, qf, ql⟩ := row3 (H0.out.kept hsp)
  go_upto_region 14 with (fail)
  refine region_T (fun w' => w'.cell? ⟨gc, 2, none⟩ = some (.int .i64 m0.Fp) ∧ w'.cell? ⟨gs + 1, 1, none⟩ = some (.int .i64 arg)) 11 (by kernel_rfl) (And.intro (drew_keeps z2) (drew_keeps p1)) (fun hH => ?_)
  have hX := H0.out.gro ((Gro.refl w0).drew)
  generalize w0.drew = wx at hX hH ⊢
  have HX := Lib.hid hX
  clear hX
  obtain ⟨hH1, hH2⟩ := hH
  have hH := And.intro hH1 hH2
  refine AnyT.take (i := 0) (cs := [11]) rfl (by kernel_rfl) (by kernel_rfl) (by kernel_rfl) (by kernel_rfl) rfl (by kernel_rfl) (fun _ _ _ h => h) hH (by rfl) (by intro w hSw; (try dsimp only at hSw); go_simp; (try with_reducible rfl)) ?_
  try simp only [Act.put, List.setIfInBounds_toArray, List.set_cons_zero, List.set_cons_succ]
  refine AnyT.take (i := 1) (cs := [2, 3, 4, 5, 8, 10, 11]) rfl (by kernel_rfl) (by kernel_rfl) (by kernel_rfl) (by kernel_rfl) rfl (by kernel_rfl) (fun _ _ _ h => h) hH (by rfl) (by intro w hSw; (try dsimp only at hSw); go_simp; (try with_reducible rfl)) ?_
  try simp only [Act.put, List.setIfInBounds_toArray, List.set_cons_zero, List.set_cons_succ]
  refine AnyT.take (i := 2) (cs := [3, 4, 5, 8, 10, 11]) rfl (by kernel_rfl) (by kernel_rfl) (by kernel_rfl) (by kernel_rfl) rfl (by kernel_rfl) (fun _ _ _ h => h) hH (by rfl) (by intro w hSw; (try dsimp only at hSw); go_simp; (try with_reducible rfl)) ?_
  try simp only [Act.put, List.setIfInBounds_toArray, List.set_cons_zero, List.set_cons_succ]
  refine AnyT.take (i := 3) (cs := [4, 5, 8, 10, 11]) rfl (by kernel_rfl) (by kernel_rfl) (by kernel_rfl) (by kernel_rfl) rfl (by kernel_rfl) (fun _ _ _ h => h) hH (by rfl) (by intro w hSw; (try dsimp only at hSw); go_simp; (try with_reducible rfl)) ?_
  try simp only [Act.put, List.setIfInBounds_toArray, List.set_cons_zero, List.set_cons_succ]
  refine AnyT.take (i := 4) (cs := [5, 8, 10, 11]) rfl (by kernel_rfl) (by kernel_rfl) (by kernel_rfl) (by kernel_rfl) rfl (by kernel_rfl) (fun _ _ _ h => h) hH (by rfl) (by intro w hSw; (try dsimp only at hSw); go_simp; (try with_reducible rfl)) ?_
  try simp only [Act.put, List.setIfInBounds_toArray, List.set_cons_zero, List.set_cons_succ]
  refine AnyT.take (i := 5) (cs := [8, 10, 11]) rfl (by kernel_rfl) (by kernel_rfl) (by kernel_rfl) (by kernel_rfl) rfl (by kernel_rfl) (fun _ _ _ h => h) hH (by rfl) (by intro w hSw; (try dsimp only at hSw); go_simp; (try with_reducible rfl)) ?_
  try simp only [Act.put, List.setIfInBounds_toArray, List.set_cons_zero, List.set_cons_succ]
  refine AnyT.take (i := 6) (cs := [7, 8, 10, 11]) rfl (by kernel_rfl) (by kernel_rfl) (by kernel_rfl) (by kernel_rfl) rfl (by kernel_rfl) (fun _ _ _ h => h) hH (by rfl) (by intro w hSw; (try dsimp only at hSw); go_simp; (try with_reducible rfl)) ?_
  try simp only [Act.put, List.setIfInBounds_toArray, List.set_cons_zero, List.set_cons_succ]
  refine AnyT.take (i := 7) (cs := [8, 10, 11]) rfl (by kernel_rfl) (by kernel_rfl) (by kernel_rfl) (by kernel_rfl) rfl (by kernel_rfl) (fun _ _ _ h => h) hH (by rfl) (by intro w hSw; (try dsimp only at hSw); go_simp; (try with_reducible rfl)) ?_
  try simp only [Act.put, List.setIfInBounds_toArray, List.set_cons_zero, List.set_cons_succ]
  refine AnyT.take (i := 9) (cs := [10, 11]) rfl (by kernel_rfl) (by kernel_rfl) (by kernel_rfl) (by kernel_rfl) rfl (by kernel_rfl) (fun _ _ _ h => h) hH (by rfl) (by intro w hSw; (try dsimp only at hSw); go_simp; (try with_reducible rfl)) ?_
  try simp only [Act.put, List.setIfInBounds_toArray, List.set_cons_zero, List.set_cons_succ]
  refine AnyT.some1 (i := 8) (by kernel_rfl) rfl (fun K hK => ?_)
  go_simp
  go_at_call 146
  refine (near_s m0.Fp arg wx ha).mono ?_
  rintro e w1 ⟨rfl, rfl⟩
  refine hK.out _ _ hH ?_
  clear hK
  try simp only [Act.put, List.setIfInBounds_toArray, List.set_cons_zero, List.set_cons_succ]
  refine AnyT.some1 (i := 10) (by kernel_rfl) rfl (fun K hK => ?_)
  go_simp
  go_at_call 148
  refine (pop_s4 HX.out).mono ?_
  rintro e w2 ⟨⟨v1, b1, m1, hv1, rfl, hC1, ho1⟩, hK4⟩
  have hz2 := hK4 2 _ (by omega) (by omega) hH1
  have hz3 := (box2 (hC1.kept hop)).2.1
  refine hK.out _ _ (And.intro hz2 hz3) ?_
  clear hK
  try simp only [Act.put, List.setIfInBounds_toArray, List.set_cons_zero, List.set_cons_succ]
  refine AnyT.last (by kernel_rfl) rfl (by kernel_rfl) (fun K hK => ?_)
  go_simp
  go_at_call 147
  refine (put_s hC1 hv1).mono ?_
  rintro e w3 ⟨rfl, b3, m3, hC3, ho3⟩
  refine hK.out _ _ ?_
  clear hK
  try simp only [Act.put, List.setIfInBounds_toArray, List.set_cons_zero, List.set_cons_succ]
  go_wp2_with (fail)
  exact bodyPost_end (v := .tuple #[]) (by simp [results, Try.results128, go_sem]) rfl ⟨rfl, _, _, (hC3).drop HS.out, by rw [ho3, ← cPop_opt (K := fun p => cPut p.1 (nearV m0.Fp arg) p.2) ho1]; show (cPop m0).bind _ = (cPop m0).bind _; simp only [cPut_near ha]⟩
set_option maxRecDepth 100000 in
set_option maxHeartbeats 2000000 in
theorem perform_s4 {B : List (Nat × Obj)} {Y W : World} {N gc : Nat} {m m0 : DMachine} {es : List Int} {A0 A1 A2 : Option Addr} {n0 n1 c0 c1 c2 n : Nat} {arg : Int} (h : StS B Y W N gc false m) (hm0 : ({ m with Pc := m.Pc + (n : Int) } : DMachine) = m0) (hp : -1152921504606846976 ≤ m.Pc ∧ m.Pc ≤ 1152921504606846976) (hn : n ≤ 5) (ha : -32768 ≤ arg ∧ arg ≤ 32767) :
    Calls Try.prog 128 #[.agg #[.slice A0 n0 c0, .slice A1 n1 c1, .slice A2 es.length c2], .pointer (some ⟨gc, 0, none⟩), .agg #[.int .i64 4, .int .i64 arg], .int .i64 n] W (ActS (fun m => performM es m 4 arg) B Y N gc false m0) := by
  have h2 := (h.allocB (cs := #[.slice A0 n0 c0, .slice A1 n1 c1, .slice A2 es.length c2]) (t := 33)).allocB (cs := #[.int .i64 4, .int .i64 arg]) (t := 166)
  have hsub : ∀ p ∈ B, p ∈ ((W.alloc (.cells #[.slice A0 n0 c0, .slice A1 n1 c1, .slice A2 es.length c2] 33)).heap.size, Obj.cells #[.int .i64 4, .int .i64 arg] 166 (0, 0)) :: (W.heap.size, Obj.cells #[.slice A0 n0 c0, .slice A1 n1 c1, .slice A2 es.length c2] 33 (0, 0)) :: B := fun p hp => List.mem_cons_of_mem _ (List.mem_cons_of_mem _ hp)
  obtain ⟨spv, hspv⟩ : ∃ v, m.Sp = v := ⟨_, rfl⟩
  have hwp : wrap64 (m.Pc + (n : Int)) = m.Pc + (n : Int) := wrap64_small (by omega) (by omega)
  have hipc : I64 (m.Pc + (n : Int)) := ⟨by omega, by omega⟩
  go_enter Try.func128, Try.ntmps128
  go_upto_region 1 with (fail)
  rw [World.size_alloc] at h2 hsub
  generalize (W.alloc (.cells #[.slice A0 n0 c0, .slice A1 n1 c1, .slice A2 es.length c2] 33)).alloc (.cells #[.int .i64 4, .int .i64 arg] 166) = W1 at h2 ⊢
  obtain ⟨gs, hgs⟩ : ∃ g, W.heap.size = g := ⟨_, rfl⟩
  rw [hgs] at h2 hsub ⊢
  obtain ⟨BB, hBB⟩ : ∃ X, (gs + 1, Obj.cells #[.int .i64 4, .int .i64 arg] 166 (0, 0)) :: (gs, Obj.cells #[.slice A0 n0 c0, .slice A1 n1 c1, .slice A2 es.length c2] 33 (0, 0)) :: B = X := ⟨_, rfl⟩
  have hop : (gs + 1, Obj.cells #[.int .i64 4, .int .i64 arg] 166 (0, 0)) ∈ BB := by rw [← hBB]; exact List.mem_cons_self
  have hsp : (gs, Obj.cells #[.slice A0 n0 c0, .slice A1 n1 c1, .slice A2 es.length c2] 33 (0, 0)) ∈ BB := by rw [← hBB]; exact List.mem_cons_of_mem _ List.mem_cons_self
  rw [hBB] at h2 hsub
  clear hBB hgs
  have H9 := Lib.hid h2
  have HS := Lib.hid hsub
  clear h h2 hsub
  obtain ⟨A, c, Ao, co, z0, z1, z2, z3, z4, z5, z6, z7, zf, zl, hk⟩ := H9.out.cells
  obtain ⟨p0, p1, pf0, pf1, pl⟩ := box2 (H9.out.kept hop)
  obtain ⟨q0, q1, q2, qf, ql⟩ := row3 (H9.out.kept hsp)
  go_upto_region 3 with (fail)
  have hC0 := H9.out.num (i := 0) (v := .int .i64 (m.Pc + (n : Int))) (bad' := false) (m' := { m with Pc := m.Pc + (n : Int) }) rfl rfl ⟨hk.len, hk.out, hipc, hk.sp, hk.fp, hk.st, hk.va⟩ (fun _ _ => rfl)
  have hpb : -4611686018427387904 ≤ ({ m with Pc := m.Pc + (n : Int) } : DMachine).Pc ∧ ({ m with Pc := m.Pc + (n : Int) } : DMachine).Pc ≤ 4611686018427387904 := ⟨by show _ ≤ m.Pc + (n : Int); omega, by show m.Pc + (n : Int) ≤ _; omega⟩
  have hs0 : ({ m with Pc := m.Pc + (n : Int) } : DMachine).Sp = spv := hspv
  rw [hm0] at hC0 hpb hs0
  generalize W1.setCell ⟨gc, 0, none⟩ (.int .i64 (m.Pc + (n : Int))) = w0 at hC0 ⊢
  have HB := Lib.hid hpb
  have HSP := Lib.hid hs0
  clear hspv hwp hipc hpb hs0 H9 hk hp hn
  have H0 := Lib.hid hC0
  clear hC0
  clear z0 z1 z2 z3 z4 z5 z6 z7 zf zl p0 p1 pf0 pf1 pl q0 q1 q2 qf ql
  obtain ⟨A, c, Ao, co, z0, z1, z2, z3, z4, z5, z6, z7, zf, zl, hk⟩ := H0.out.cells
  obtain ⟨p0, p1, pf0, pf1, pl⟩ := box2 (H0.out.kept hop)
  obtain ⟨q0, q1, q2, qf, ql⟩ := row3 (H0.out.kept hsp)
  have hsi := hk.sp
  rw [HSP.out] at hsi
  go_upto_region 16 with (fail)
  refine region_T (fun w' => w'.cell? ⟨gs + 1, 1, none⟩ = some (.int .i64 arg)) 7 (by kernel_rfl) (drew_keeps p1) (fun hH => ?_)
  have hX := H0.out.gro ((Gro.refl w0).drew)
  generalize w0.drew = wx at hX hH ⊢
  have HX := Lib.hid hX
  clear hX
  refine AnyT.take (i := 0) (cs := [7]) rfl (by kernel_rfl) (by kernel_rfl) (by kernel_rfl) (by kernel_rfl) rfl (by kernel_rfl) (fun _ _ _ h => h) hH (by rfl) (by intro w hSw; (try dsimp only at hSw); go_simp; (try with_reducible rfl)) ?_
  try simp only [Act.put, List.setIfInBounds_toArray, List.set_cons_zero, List.set_cons_succ]
  refine AnyT.take (i := 1) (cs := [4, 7]) rfl (by kernel_rfl) (by kernel_rfl) (by kernel_rfl) (by kernel_rfl) rfl (by kernel_rfl) (fun _ _ _ h => h) hH (by rfl) (by intro w hSw; (try dsimp only at hSw); go_simp; (try with_reducible rfl)) ?_
  try simp only [Act.put, List.setIfInBounds_toArray, List.set_cons_zero, List.set_cons_succ]
  refine AnyT.take (i := 2) (cs := [3, 4, 7]) rfl (by kernel_rfl) (by kernel_rfl) (by kernel_rfl) (by kernel_rfl) rfl (by kernel_rfl) (fun _ _ _ h => h) hH (by rfl) (by intro w hSw; (try dsimp only at hSw); go_simp; (try with_reducible rfl)) ?_
  try simp only [Act.put, List.setIfInBounds_toArray, List.set_cons_zero, List.set_cons_succ]
  refine AnyT.take (i := 3) (cs := [4, 7]) rfl (by kernel_rfl) (by kernel_rfl) (by kernel_rfl) (by kernel_rfl) rfl (by kernel_rfl) (fun _ _ _ h => h) hH (by rfl) (by intro w hSw; (try dsimp only at hSw); go_simp; (try with_reducible rfl)) ?_
  try simp only [Act.put, List.setIfInBounds_toArray, List.set_cons_zero, List.set_cons_succ]
  refine AnyT.take (i := 4) (cs := [7]) rfl (by kernel_rfl) (by kernel_rfl) (by kernel_rfl) (by kernel_rfl) rfl (by kernel_rfl) (fun _ _ _ h => h) hH (by rfl) (by intro w hSw; (try dsimp only at hSw); go_simp; (try with_reducible rfl)) ?_
  try simp only [Act.put, List.setIfInBounds_toArray, List.set_cons_zero, List.set_cons_succ]
  refine AnyT.take (i := 5) (cs := [6, 7]) rfl (by kernel_rfl) (by kernel_rfl) (by kernel_rfl) (by kernel_rfl) rfl (by kernel_rfl) (fun _ _ _ h => h) hH (by rfl) (by intro w hSw; (try dsimp only at hSw); go_simp; (try with_reducible rfl)) ?_
  try simp only [Act.put, List.setIfInBounds_toArray, List.set_cons_zero, List.set_cons_succ]
  refine AnyT.some1 (i := 6) (by kernel_rfl) rfl (fun K hK => ?_)
  go_simp
  go_at_call 148
  refine (pop_s4 HX.out).mono ?_
  rintro e w2 ⟨⟨v1, b1, m1, hv1, rfl, hC1, ho1⟩, hK4⟩
  have hz3 := (box2 (hC1.kept hop)).2.1
  refine hK.out _ _ hz3 ?_
  clear hK
  try simp only [Act.put, List.setIfInBounds_toArray, List.set_cons_zero, List.set_cons_succ]
  refine AnyT.last (by kernel_rfl) rfl (by kernel_rfl) (fun K hK => ?_)
  go_simp
  go_at_call 147
  refine (put_s hC1 hv1).mono ?_
  rintro e w3 ⟨rfl, b3, m3, hC3, ho3⟩
  refine hK.out _ _ ?_
  clear hK
  try simp only [Act.put, List.setIfInBounds_toArray, List.set_cons_zero, List.set_cons_succ]
  go_wp2_with (fail)
  exact bodyPost_end (v := .tuple #[]) (by simp [results, Try.results128, go_sem]) rfl ⟨rfl, _, _, (hC3).drop HS.out, by rw [ho3, IntWalk.i64_left, ← cPop_opt (K := fun p => cPut p.1 (wrap64 (spv + arg)) p.2) ho1]; show (cPop m0).bind _ = (cPop m0).bind fun p => cPut p.1 (m0.Sp + arg) p.2; simp only [cPut_wrap hsi ha, HSP.out]⟩
set_option maxRecDepth 100000 in
set_option maxHeartbeats 2000000 in
theorem perform_s5 {B : List (Nat × Obj)} {Y W : World} {N gc : Nat} {m m0 : DMachine} {es : List Int} {A0 A1 A2 : Option Addr} {n0 n1 c0 c1 c2 n : Nat} {arg : Int} (h : StS B Y W N gc false m) (hm0 : ({ m with Pc := m.Pc + (n : Int) } : DMachine) = m0) (hp : -1152921504606846976 ≤ m.Pc ∧ m.Pc ≤ 1152921504606846976) (hn : n ≤ 5)  :
    Calls Try.prog 128 #[.agg #[.slice A0 n0 c0, .slice A1 n1 c1, .slice A2 es.length c2], .pointer (some ⟨gc, 0, none⟩), .agg #[.int .i64 5, .int .i64 arg], .int .i64 n] W (ActS (fun m => performM es m 5 arg) B Y N gc false m0) := by
  have h2 := (h.allocB (cs := #[.slice A0 n0 c0, .slice A1 n1 c1, .slice A2 es.length c2]) (t := 33)).allocB (cs := #[.int .i64 5, .int .i64 arg]) (t := 166)
  have hsub : ∀ p ∈ B, p ∈ ((W.alloc (.cells #[.slice A0 n0 c0, .slice A1 n1 c1, .slice A2 es.length c2] 33)).heap.size, Obj.cells #[.int .i64 5, .int .i64 arg] 166 (0, 0)) :: (W.heap.size, Obj.cells #[.slice A0 n0 c0, .slice A1 n1 c1, .slice A2 es.length c2] 33 (0, 0)) :: B := fun p hp => List.mem_cons_of_mem _ (List.mem_cons_of_mem _ hp)
  obtain ⟨spv, hspv⟩ : ∃ v, m.Sp = v := ⟨_, rfl⟩
  have hwp : wrap64 (m.Pc + (n : Int)) = m.Pc + (n : Int) := wrap64_small (by omega) (by omega)
  have hipc : I64 (m.Pc + (n : Int)) := ⟨by omega, by omega⟩
  go_enter Try.func128, Try.ntmps128
  go_upto_region 1 with (fail)
  rw [World.size_alloc] at h2 hsub
  generalize (W.alloc (.cells #[.slice A0 n0 c0, .slice A1 n1 c1, .slice A2 es.length c2] 33)).alloc (.cells #[.int .i64 5, .int .i64 arg] 166) = W1 at h2 ⊢
  obtain ⟨gs, hgs⟩ : ∃ g, W.heap.size = g := ⟨_, rfl⟩
  rw [hgs] at h2 hsub ⊢
  obtain ⟨BB, hBB⟩ : ∃ X, (gs + 1, Obj.cells #[.int .i64 5, .int .i64 arg] 166 (0, 0)) :: (gs, Obj.cells #[.slice A0 n0 c0, .slice A1 n1 c1, .slice A2 es.length c2] 33 (0, 0)) :: B = X := ⟨_, rfl⟩
  have hop : (gs + 1, Obj.cells #[.int .i64 5, .int .i64 arg] 166 (0, 0)) ∈ BB := by rw [← hBB]; exact List.mem_cons_self
  have hsp : (gs, Obj.cells #[.slice A0 n0 c0, .slice A1 n1 c1, .slice A2 es.length c2] 33 (0, 0)) ∈ BB := by rw [← hBB]; exact List.mem_cons_of_mem _ List.mem_cons_self
  rw [hBB] at h2 hsub
  clear hBB hgs
  have H9 := Lib.hid h2
  have HS := Lib.hid hsub
  clear h h2 hsub
  obtain ⟨A, c, Ao, co, z0, z1, z2, z3, z4, z5, z6, z7, zf, zl, hk⟩ := H9.out.cells
  obtain ⟨p0, p1, pf0, pf1, pl⟩ := box2 (H9.out.kept hop)
  obtain ⟨q0, q1, q2, qf, ql⟩ := row3 (H9.out.kept hsp)
  go_upto_region 3 with (fail)
  have hC0 := H9.out.num (i := 0) (v := .int .i64 (m.Pc + (n : Int))) (bad' := false) (m' := { m with Pc := m.Pc + (n : Int) }) rfl rfl ⟨hk.len, hk.out, hipc, hk.sp, hk.fp, hk.st, hk.va⟩ (fun _ _ => rfl)
  have hpb : -4611686018427387904 ≤ ({ m with Pc := m.Pc + (n : Int) } : DMachine).Pc ∧ ({ m with Pc := m.Pc + (n : Int) } : DMachine).Pc ≤ 4611686018427387904 := ⟨by show _ ≤ m.Pc + (n : Int); omega, by show m.Pc + (n : Int) ≤ _; omega⟩
  have hs0 : ({ m with Pc := m.Pc + (n : Int) } : DMachine).Sp = spv := hspv
  rw [hm0] at hC0 hpb hs0
  generalize W1.setCell ⟨gc, 0, none⟩ (.int .i64 (m.Pc + (n : Int))) = w0 at hC0 ⊢
  have HB := Lib.hid hpb
  have HSP := Lib.hid hs0
  clear hspv hwp hipc hpb hs0 H9 hk hp hn
  have H0 := Lib.hid hC0
  clear hC0
  clear z0 z1 z2 z3 z4 z5 z6 z7 zf zl p0 p1 pf0 pf1 pl q0 q1 q2 qf ql
  obtain ⟨A, c, Ao, co, z0, z1, z2, z3, z4, z5, z6, z7, zf, zl, hk⟩ := H0.out.cells
  obtain ⟨p0, p1, pf0, pf1, pl⟩ := box2 (H0.out.kept hop)
  obtain ⟨q0, q1, q2, qf, ql⟩ := row3 (H0.out.kept hsp)
  go_upto_region 5 with (go_at_call 148; (with_reducible refine (pop_s H0.out).mono ?_); rintro e w1 ⟨v1, b1, m1, hv1, rfl, hC1, ho1⟩)
  have H1 := Lib.hid hC1
  clear hC1
  clear z0 z1 z2 z3 z4 z5 z6 z7 zf zl p0 p1 pf0 pf1 pl q0 q1 q2 qf ql
  obtain ⟨A, c, Ao, co, z0, z1, z2, z3, z4, z5, z6, z7, zf, zl, hk⟩ := H1.out.cells
  obtain ⟨p0, p1, pf0, pf1, pl⟩ := box2 (H1.out.kept hop)
  obtain ⟨q0, q1, q2, qf, ql⟩ := row3 (H1.out.kept hsp)
  go_upto_region 6 with (go_at_call 148; (with_reducible refine (pop_s H1.out).mono ?_); rintro e w2 ⟨v2, b2, m2, hv2, rfl, hC2, ho2⟩)
  have H2 := Lib.hid hC2
  clear hC2
  clear z0 z1 z2 z3 z4 z5 z6 z7 zf zl p0 p1 pf0 pf1 pl q0 q1 q2 qf ql
  obtain ⟨A, c, Ao, co, z0, z1, z2, z3, z4, z5, z6, z7, zf, zl, hk⟩ := H2.out.cells
  obtain ⟨p0, p1, pf0, pf1, pl⟩ := box2 (H2.out.kept hop)
  obtain ⟨q0, q1, q2, qf, ql⟩ := row3 (H2.out.kept hsp)
  go_wp2_with (first | (go_at_call 151; (with_reducible refine (applyC_s (k := 2) (a := v2) (b := v1) (by omega) hv2 hv1).mono ?_); rintro e w3 ⟨rfl, rfl⟩) | (go_at_call 145; (with_reducible refine (push_s H2.out (applyC_bd 5 v2 v1)).mono ?_); rintro e w4 ⟨rfl, b4, m4, hC4, ho4⟩))
  exact bodyPost_end (v := .tuple #[]) (by simp [results, Try.results128, go_sem]) rfl ⟨rfl, _, _, (hC4).drop HS.out, by rw [pmA_f (by omega), cPop_opt (K := fun p => (cPop p.1).bind fun q => cPush q.1 (applyC 5 q.2 p.2)) ho1, cPop_opt (K := fun q => cPush q.1 (applyC 5 q.2 v1)) ho2]; exact ho4⟩
set_option maxRecDepth 100000 in
set_option maxHeartbeats 2000000 in
theorem perform_s6 {B : List (Nat × Obj)} {Y W : World} {N gc : Nat} {m m0 : DMachine} {es : List Int} {A0 A1 A2 : Option Addr} {n0 n1 c0 c1 c2 n : Nat} {arg : Int} (h : StS B Y W N gc false m) (hm0 : ({ m with Pc := m.Pc + (n : Int) } : DMachine) = m0) (hp : -1152921504606846976 ≤ m.Pc ∧ m.Pc ≤ 1152921504606846976) (hn : n ≤ 5)  :
    Calls Try.prog 128 #[.agg #[.slice A0 n0 c0, .slice A1 n1 c1, .slice A2 es.length c2], .pointer (some ⟨gc, 0, none⟩), .agg #[.int .i64 6, .int .i64 arg], .int .i64 n] W (ActS (fun m => performM es m 6 arg) B Y N gc false m0) := by
  have h2 := (h.allocB (cs := #[.slice A0 n0 c0, .slice A1 n1 c1, .slice A2 es.length c2]) (t := 33)).allocB (cs := #[.int .i64 6, .int .i64 arg]) (t := 166)
  have hsub : ∀ p ∈ B, p ∈ ((W.alloc (.cells #[.slice A0 n0 c0, .slice A1 n1 c1, .slice A2 es.length c2] 33)).heap.size, Obj.cells #[.int .i64 6, .int .i64 arg] 166 (0, 0)) :: (W.heap.size, Obj.cells #[.slice A0 n0 c0, .slice A1 n1 c1, .slice A2 es.length c2] 33 (0, 0)) :: B := fun p hp => List.mem_cons_of_mem _ (List.mem_cons_of_mem _ hp)
  obtain ⟨spv, hspv⟩ : ∃ v, m.Sp = v := ⟨_, rfl⟩
  have hwp : wrap64 (m.Pc + (n : Int)) = m.Pc + (n : Int) := wrap64_small (by omega) (by omega)
  have hipc : I64 (m.Pc + (n : Int)) := ⟨by omega, by omega⟩
  go_enter Try.func128, Try.ntmps128
  go_upto_region 1 with (fail)
  rw [World.size_alloc] at h2 hsub
  generalize (W.alloc (.cells #[.slice A0 n0 c0, .slice A1 n1 c1, .slice A2 es.length c2] 33)).alloc (.cells #[.int .i64 6, .int .i64 arg] 166) = W1 at h2 ⊢
  obtain ⟨gs, hgs⟩ : ∃ g, W.heap.size = g := ⟨_, rfl⟩
  rw [hgs] at h2 hsub ⊢
  obtain ⟨BB, hBB⟩ : ∃ X, (gs + 1, Obj.cells #[.int .i64 6, .int .i64 arg] 166 (0, 0)) :: (gs, Obj.cells #[.slice A0 n0 c0, .slice A1 n1 c1, .slice A2 es.length c2] 33 (0, 0)) :: B = X := ⟨_, rfl⟩
  have hop : (gs + 1, Obj.cells #[.int .i64 6, .int .i64 arg] 166 (0, 0)) ∈ BB := by rw [← hBB]; exact List.mem_cons_self
  have hsp : (gs, Obj.cells #[.slice A0 n0 c0, .slice A1 n1 c1, .slice A2 es.length c2] 33 (0, 0)) ∈ BB := by rw [← hBB]; exact List.mem_cons_of_mem _ List.mem_cons_self
  rw [hBB] at h2 hsub
  clear hBB hgs
  have H9 := Lib.hid h2
  have HS := Lib.hid hsub
  clear h h2 hsub
  obtain ⟨A, c, Ao, co, z0, z1, z2, z3, z4, z5, z6, z7, zf, zl, hk⟩ := H9.out.cells
  obtain ⟨p0, p1, pf0, pf1, pl⟩ := box2 (H9.out.kept hop)
  obtain ⟨q0, q1, q2, qf, ql⟩ := row3 (H9.out.kept hsp)
  go_upto_region 3 with (fail)
  have hC0 := H9.out.num (i := 0) (v := .int .i64 (m.Pc + (n : Int))) (bad' := false) (m' := { m with Pc := m.Pc + (n : Int) }) rfl rfl ⟨hk.len, hk.out, hipc, hk.sp, hk.fp, hk.st, hk.va⟩ (fun _ _ => rfl)
  have hpb : -4611686018427387904 ≤ ({ m with Pc := m.Pc + (n : Int) } : DMachine).Pc ∧ ({ m with Pc := m.Pc + (n : Int) } : DMachine).Pc ≤ 4611686018427387904 := ⟨by show _ ≤ m.Pc + (n : Int); omega, by show m.Pc + (n : Int) ≤ _; omega⟩
  have hs0 : ({ m with Pc := m.Pc + (n : Int) } : DMachine).Sp = spv := hspv
  rw [hm0] at hC0 hpb hs0
  generalize W1.setCell ⟨gc, 0, none⟩ (.int .i64 (m.Pc + (n : Int))) = w0 at hC0 ⊢
  have HB := Lib.hid hpb
  have HSP := Lib.hid hs0
  clear hspv hwp hipc hpb hs0 H9 hk hp hn
  have H0 := Lib.hid hC0
  clear hC0
  clear z0 z1 z2 z3 z4 z5 z6 z7 zf zl p0 p1 pf0 pf1 pl q0 q1 q2 qf ql
  obtain ⟨A, c, Ao, co, z0, z1, z2, z3, z4, z5, z6, z7, zf, zl, hk⟩ := H0.out.cells
  obtain ⟨p0, p1, pf0, pf1, pl⟩ := box2 (H0.out.kept hop)
  obtain ⟨q0, q1, q2, qf, ql⟩ := row3 (H0.out.kept hsp)
  go_upto_region 5 with (go_at_call 148; (with_reducible refine (pop_s H0.out).mono ?_); rintro e w1 ⟨v1, b1, m1, hv1, rfl, hC1, ho1⟩)
  have H1 := Lib.hid hC1
  clear hC1
  clear z0 z1 z2 z3 z4 z5 z6 z7 zf zl p0 p1 pf0 pf1 pl q0 q1 q2 qf ql
  obtain ⟨A, c, Ao, co, z0, z1, z2, z3, z4, z5, z6, z7, zf, zl, hk⟩ := H1.out.cells
  obtain ⟨p0, p1, pf0, pf1, pl⟩ := box2 (H1.out.kept hop)
  obtain ⟨q0, q1, q2, qf, ql⟩ := row3 (H1.out.kept hsp)
  go_upto_region 6 with (go_at_call 148; (with_reducible refine (pop_s H1.out).mono ?_); rintro e w2 ⟨v2, b2, m2, hv2, rfl, hC2, ho2⟩)
  have H2 := Lib.hid hC2
  clear hC2
  clear z0 z1 z2 z3 z4 z5 z6 z7 zf zl p0 p1 pf0 pf1 pl q0 q1 q2 qf ql
  obtain ⟨A, c, Ao, co, z0, z1, z2, z3, z4, z5, z6, z7, zf, zl, hk⟩ := H2.out.cells
  obtain ⟨p0, p1, pf0, pf1, pl⟩ := box2 (H2.out.kept hop)
  obtain ⟨q0, q1, q2, qf, ql⟩ := row3 (H2.out.kept hsp)
  go_wp2_with (first | (go_at_call 151; (with_reducible refine (applyC_s (k := 3) (a := v2) (b := v1) (by omega) hv2 hv1).mono ?_); rintro e w3 ⟨rfl, rfl⟩) | (go_at_call 145; (with_reducible refine (push_s H2.out (applyC_bd 6 v2 v1)).mono ?_); rintro e w4 ⟨rfl, b4, m4, hC4, ho4⟩))
  exact bodyPost_end (v := .tuple #[]) (by simp [results, Try.results128, go_sem]) rfl ⟨rfl, _, _, (hC4).drop HS.out, by rw [pmA_f (by omega), cPop_opt (K := fun p => (cPop p.1).bind fun q => cPush q.1 (applyC 6 q.2 p.2)) ho1, cPop_opt (K := fun q => cPush q.1 (applyC 6 q.2 v1)) ho2]; exact ho4⟩
set_option maxRecDepth 100000 in
set_option maxHeartbeats 2000000 in
theorem perform_s7 {B : List (Nat × Obj)} {Y W : World} {N gc : Nat} {m m0 : DMachine} {es : List Int} {A0 A1 A2 : Option Addr} {n0 n1 c0 c1 c2 n : Nat} {arg : Int} (h : StS B Y W N gc false m) (hm0 : ({ m with Pc := m.Pc + (n : Int) } : DMachine) = m0) (hp : -1152921504606846976 ≤ m.Pc ∧ m.Pc ≤ 1152921504606846976) (hn : n ≤ 5)  :
    Calls Try.prog 128 #[.agg #[.slice A0 n0 c0, .slice A1 n1 c1, .slice A2 es.length c2], .pointer (some ⟨gc, 0, none⟩), .agg #[.int .i64 7, .int .i64 arg], .int .i64 n] W (ActS (fun m => performM es m 7 arg) B Y N gc false m0) := by
  have h2 := (h.allocB (cs := #[.slice A0 n0 c0, .slice A1 n1 c1, .slice A2 es.length c2]) (t := 33)).allocB (cs := #[.int .i64 7, .int .i64 arg]) (t := 166)
  have hsub : ∀ p ∈ B, p ∈ ((W.alloc (.cells #[.slice A0 n0 c0, .slice A1 n1 c1, .slice A2 es.length c2] 33)).heap.size, Obj.cells #[.int .i64 7, .int .i64 arg] 166 (0, 0)) :: (W.heap.size, Obj.cells #[.slice A0 n0 c0, .slice A1 n1 c1, .slice A2 es.length c2] 33 (0, 0)) :: B := fun p hp => List.mem_cons_of_mem _ (List.mem_cons_of_mem _ hp)
  obtain ⟨spv, hspv⟩ : ∃ v, m.Sp = v := ⟨_, rfl⟩
  have hwp : wrap64 (m.Pc + (n : Int)) = m.Pc + (n : Int) := wrap64_small (by omega) (by omega)
  have hipc : I64 (m.Pc + (n : Int)) := ⟨by omega, by omega⟩
  go_enter Try.func128, Try.ntmps128
  go_upto_region 1 with (fail)
  rw [World.size_alloc] at h2 hsub
  generalize (W.alloc (.cells #[.slice A0 n0 c0, .slice A1 n1 c1, .slice A2 es.length c2] 33)).alloc (.cells #[.int .i64 7, .int .i64 arg] 166) = W1 at h2 ⊢
  obtain ⟨gs, hgs⟩ : ∃ g, W.heap.size = g := ⟨_, rfl⟩
  rw [hgs] at h2 hsub ⊢
  obtain ⟨BB, hBB⟩ : ∃ X, (gs + 1, Obj.cells #[.int .i64 7, .int .i64 arg] 166 (0, 0)) :: (gs, Obj.cells #[.slice A0 n0 c0, .slice A1 n1 c1, .slice A2 es.length c2] 33 (0, 0)) :: B = X := ⟨_, rfl⟩
  have hop : (gs + 1, Obj.cells #[.int .i64 7, .int .i64 arg] 166 (0, 0)) ∈ BB := by rw [← hBB]; exact List.mem_cons_self
  have hsp : (gs, Obj.cells #[.slice A0 n0 c0, .slice A1 n1 c1, .slice A2 es.length c2] 33 (0, 0)) ∈ BB := by rw [← hBB]; exact List.mem_cons_of_mem _ List.mem_cons_self
  rw [hBB] at h2 hsub
  clear hBB hgs
  have H9 := Lib.hid h2
  have HS := Lib.hid hsub
  clear h h2 hsub
  obtain ⟨A, c, Ao, co, z0, z1, z2, z3, z4, z5, z6, z7, zf, zl, hk⟩ := H9.out.cells
  obtain ⟨p0, p1, pf0, pf1, pl⟩ := box2 (H9.out.kept hop)
  obtain ⟨q0, q1, q2, qf, ql⟩ := row3 (H9.out.kept hsp)
  go_upto_region 3 with (fail)
  have hC0 := H9.out.num (i := 0) (v := .int .i64 (m.Pc + (n : Int))) (bad' := false) (m' := { m with Pc := m.Pc + (n : Int) }) rfl rfl ⟨hk.len, hk.out, hipc, hk.sp, hk.fp, hk.st, hk.va⟩ (fun _ _ => rfl)
  have hpb : -4611686018427387904 ≤ ({ m with Pc := m.Pc + (n : Int) } : DMachine).Pc ∧ ({ m with Pc := m.Pc + (n : Int) } : DMachine).Pc ≤ 4611686018427387904 := ⟨by show _ ≤ m.Pc + (n : Int); omega, by show m.Pc + (n : Int) ≤ _; omega⟩
  have hs0 : ({ m with Pc := m.Pc + (n : Int) } : DMachine).Sp = spv := hspv
  rw [hm0] at hC0 hpb hs0
  generalize W1.setCell ⟨gc, 0, none⟩ (.int .i64 (m.Pc + (n : Int))) = w0 at hC0 ⊢
  have HB := Lib.hid hpb
  have HSP := Lib.hid hs0
  clear hspv hwp hipc hpb hs0 H9 hk hp hn
  have H0 := Lib.hid hC0
  clear hC0
  clear z0 z1 z2 z3 z4 z5 z6 z7 zf zl p0 p1 pf0 pf1 pl q0 q1 q2 qf ql
  obtain ⟨A, c, Ao, co, z0, z1, z2, z3, z4, z5, z6, z7, zf, zl, hk⟩ := H0.out.cells
  obtain ⟨p0, p1, pf0, pf1, pl⟩ := box2 (H0.out.kept hop)
  obtain ⟨q0, q1, q2, qf, ql⟩ := row3 (H0.out.kept hsp)
  go_upto_region 5 with (go_at_call 148; (with_reducible refine (pop_s H0.out).mono ?_); rintro e w1 ⟨v1, b1, m1, hv1, rfl, hC1, ho1⟩)
  have H1 := Lib.hid hC1
  clear hC1
  clear z0 z1 z2 z3 z4 z5 z6 z7 zf zl p0 p1 pf0 pf1 pl q0 q1 q2 qf ql
  obtain ⟨A, c, Ao, co, z0, z1, z2, z3, z4, z5, z6, z7, zf, zl, hk⟩ := H1.out.cells
  obtain ⟨p0, p1, pf0, pf1, pl⟩ := box2 (H1.out.kept hop)
  obtain ⟨q0, q1, q2, qf, ql⟩ := row3 (H1.out.kept hsp)
  go_upto_region 6 with (go_at_call 148; (with_reducible refine (pop_s H1.out).mono ?_); rintro e w2 ⟨v2, b2, m2, hv2, rfl, hC2, ho2⟩)
  have H2 := Lib.hid hC2
  clear hC2
  clear z0 z1 z2 z3 z4 z5 z6 z7 zf zl p0 p1 pf0 pf1 pl q0 q1 q2 qf ql
  obtain ⟨A, c, Ao, co, z0, z1, z2, z3, z4, z5, z6, z7, zf, zl, hk⟩ := H2.out.cells
  obtain ⟨p0, p1, pf0, pf1, pl⟩ := box2 (H2.out.kept hop)
  obtain ⟨q0, q1, q2, qf, ql⟩ := row3 (H2.out.kept hsp)
  go_wp2_with (first | (go_at_call 151; (with_reducible refine (applyC_s (k := 4) (a := v2) (b := v1) (by omega) hv2 hv1).mono ?_); rintro e w3 ⟨rfl, rfl⟩) | (go_at_call 145; (with_reducible refine (push_s H2.out (applyC_bd 7 v2 v1)).mono ?_); rintro e w4 ⟨rfl, b4, m4, hC4, ho4⟩))
  exact bodyPost_end (v := .tuple #[]) (by simp [results, Try.results128, go_sem]) rfl ⟨rfl, _, _, (hC4).drop HS.out, by rw [pmA_f (by omega), cPop_opt (K := fun p => (cPop p.1).bind fun q => cPush q.1 (applyC 7 q.2 p.2)) ho1, cPop_opt (K := fun q => cPush q.1 (applyC 7 q.2 v1)) ho2]; exact ho4⟩
set_option maxRecDepth 100000 in
set_option maxHeartbeats 2000000 in
theorem perform_s8 {B : List (Nat × Obj)} {Y W : World} {N gc : Nat} {m m0 : DMachine} {es : List Int} {A0 A1 A2 : Option Addr} {n0 n1 c0 c1 c2 n : Nat} {arg : Int} (h : StS B Y W N gc false m) (hm0 : ({ m with Pc := m.Pc + (n : Int) } : DMachine) = m0) (hp : -1152921504606846976 ≤ m.Pc ∧ m.Pc ≤ 1152921504606846976) (hn : n ≤ 5)  :
    Calls Try.prog 128 #[.agg #[.slice A0 n0 c0, .slice A1 n1 c1, .slice A2 es.length c2], .pointer (some ⟨gc, 0, none⟩), .agg #[.int .i64 8, .int .i64 arg], .int .i64 n] W (ActS (fun m => performM es m 8 arg) B Y N gc false m0) := by
  have h2 := (h.allocB (cs := #[.slice A0 n0 c0, .slice A1 n1 c1, .slice A2 es.length c2]) (t := 33)).allocB (cs := #[.int .i64 8, .int .i64 arg]) (t := 166)
  have hsub : ∀ p ∈ B, p ∈ ((W.alloc (.cells #[.slice A0 n0 c0, .slice A1 n1 c1, .slice A2 es.length c2] 33)).heap.size, Obj.cells #[.int .i64 8, .int .i64 arg] 166 (0, 0)) :: (W.heap.size, Obj.cells #[.slice A0 n0 c0, .slice A1 n1 c1, .slice A2 es.length c2] 33 (0, 0)) :: B := fun p hp => List.mem_cons_of_mem _ (List.mem_cons_of_mem _ hp)
  obtain ⟨spv, hspv⟩ : ∃ v, m.Sp = v := ⟨_, rfl⟩
  have hwp : wrap64 (m.Pc + (n : Int)) = m.Pc + (n : Int) := wrap64_small (by omega) (by omega)
  have hipc : I64 (m.Pc + (n : Int)) := ⟨by omega, by omega⟩
  go_enter Try.func128, Try.ntmps128
  go_upto_region 1 with (fail)
  rw [World.size_alloc] at h2 hsub
  generalize (W.alloc (.cells #[.slice A0 n0 c0, .slice A1 n1 c1, .slice A2 es.length c2] 33)).alloc (.cells #[.int .i64 8, .int .i64 arg] 166) = W1 at h2 ⊢
  obtain ⟨gs, hgs⟩ : ∃ g, W.heap.size = g := ⟨_, rfl⟩
  rw [hgs] at h2 hsub ⊢
  obtain ⟨BB, hBB⟩ : ∃ X, (gs + 1, Obj.cells #[.int .i64 8, .int .i64 arg] 166 (0, 0)) :: (gs, Obj.cells #[.slice A0 n0 c0, .slice A1 n1 c1, .slice A2 es.length c2] 33 (0, 0)) :: B = X := ⟨_, rfl⟩
  have hop : (gs + 1, Obj.cells #[.int .i64 8, .int .i64 arg] 166 (0, 0)) ∈ BB := by rw [← hBB]; exact List.mem_cons_self
  have hsp : (gs, Obj.cells #[.slice A0 n0 c0, .slice A1 n1 c1, .slice A2 es.length c2] 33 (0, 0)) ∈ BB := by rw [← hBB]; exact List.mem_cons_of_mem _ List.mem_cons_self
  rw [hBB] at h2 hsub
  clear hBB hgs
  have H9 := Lib.hid h2
  have HS := Lib.hid hsub
  clear h h2 hsub
  obtain ⟨A, c, Ao, co, z0, z1, z2, z3, z4, z5, z6, z7, zf, zl, hk⟩ := H9.out.cells
  obtain ⟨p0, p1, pf0, pf1, pl⟩ := box2 (H9.out.kept hop)
  obtain ⟨q0, q1, q2, qf, ql⟩ := row3 (H9.out.kept hsp)
  go_upto_region 3 with (fail)
  have hC0 := H9.out.num (i := 0) (v := .int .i64 (m.Pc + (n : Int))) (bad' := false) (m' := { m with Pc := m.Pc + (n : Int) }) rfl rfl ⟨hk.len, hk.out, hipc, hk.sp, hk.fp, hk.st, hk.va⟩ (fun _ _ => rfl)
  have hpb : -4611686018427387904 ≤ ({ m with Pc := m.Pc + (n : Int) } : DMachine).Pc ∧ ({ m with Pc := m.Pc + (n : Int) } : DMachine).Pc ≤ 4611686018427387904 := ⟨by show _ ≤ m.Pc + (n : Int); omega, by show m.Pc + (n : Int) ≤ _; omega⟩
  have hs0 : ({ m with Pc := m.Pc + (n : Int) } : DMachine).Sp = spv := hspv
  rw [hm0] at hC0 hpb hs0
  generalize W1.setCell ⟨gc, 0, none⟩ (.int .i64 (m.Pc + (n : Int))) = w0 at hC0 ⊢
  have HB := Lib.hid hpb
  have HSP := Lib.hid hs0
  clear hspv hwp hipc hpb hs0 H9 hk hp hn
  have H0 := Lib.hid hC0
  clear hC0
  clear z0 z1 z2 z3 z4 z5 z6 z7 zf zl p0 p1 pf0 pf1 pl q0 q1 q2 qf ql
  obtain ⟨A, c, Ao, co, z0, z1, z2, z3, z4, z5, z6, z7, zf, zl, hk⟩ := H0.out.cells
  obtain ⟨p0, p1, pf0, pf1, pl⟩ := box2 (H0.out.kept hop)
  obtain ⟨q0, q1, q2, qf, ql⟩ := row3 (H0.out.kept hsp)
  go_upto_region 5 with (go_at_call 148; (with_reducible refine (pop_s H0.out).mono ?_); rintro e w1 ⟨v1, b1, m1, hv1, rfl, hC1, ho1⟩)
  have H1 := Lib.hid hC1
  clear hC1
  clear z0 z1 z2 z3 z4 z5 z6 z7 zf zl p0 p1 pf0 pf1 pl q0 q1 q2 qf ql
  obtain ⟨A, c, Ao, co, z0, z1, z2, z3, z4, z5, z6, z7, zf, zl, hk⟩ := H1.out.cells
  obtain ⟨p0, p1, pf0, pf1, pl⟩ := box2 (H1.out.kept hop)
  obtain ⟨q0, q1, q2, qf, ql⟩ := row3 (H1.out.kept hsp)
  go_upto_region 6 with (go_at_call 148; (with_reducible refine (pop_s H1.out).mono ?_); rintro e w2 ⟨v2, b2, m2, hv2, rfl, hC2, ho2⟩)
  have H2 := Lib.hid hC2
  clear hC2
  clear z0 z1 z2 z3 z4 z5 z6 z7 zf zl p0 p1 pf0 pf1 pl q0 q1 q2 qf ql
  obtain ⟨A, c, Ao, co, z0, z1, z2, z3, z4, z5, z6, z7, zf, zl, hk⟩ := H2.out.cells
  obtain ⟨p0, p1, pf0, pf1, pl⟩ := box2 (H2.out.kept hop)
  obtain ⟨q0, q1, q2, qf, ql⟩ := row3 (H2.out.kept hsp)
  go_wp2_with (first | (go_at_call 151; (with_reducible refine (applyC_s (k := 5) (a := v2) (b := v1) (by omega) hv2 hv1).mono ?_); rintro e w3 ⟨rfl, rfl⟩) | (go_at_call 145; (with_reducible refine (push_s H2.out (applyC_bd 8 v2 v1)).mono ?_); rintro e w4 ⟨rfl, b4, m4, hC4, ho4⟩))
  exact bodyPost_end (v := .tuple #[]) (by simp [results, Try.results128, go_sem]) rfl ⟨rfl, _, _, (hC4).drop HS.out, by rw [pmA_f (by omega), cPop_opt (K := fun p => (cPop p.1).bind fun q => cPush q.1 (applyC 8 q.2 p.2)) ho1, cPop_opt (K := fun q => cPush q.1 (applyC 8 q.2 v1)) ho2]; exact ho4⟩
set_option maxRecDepth 100000 in
set_option maxHeartbeats 2000000 in
theorem perform_s9 {B : List (Nat × Obj)} {Y W : World} {N gc : Nat} {m m0 : DMachine} {es : List Int} {A0 A1 A2 : Option Addr} {n0 n1 c0 c1 c2 n : Nat} {arg : Int} (h : StS B Y W N gc false m) (hm0 : ({ m with Pc := m.Pc + (n : Int) } : DMachine) = m0) (hp : -1152921504606846976 ≤ m.Pc ∧ m.Pc ≤ 1152921504606846976) (hn : n ≤ 5)  :
    Calls Try.prog 128 #[.agg #[.slice A0 n0 c0, .slice A1 n1 c1, .slice A2 es.length c2], .pointer (some ⟨gc, 0, none⟩), .agg #[.int .i64 9, .int .i64 arg], .int .i64 n] W (ActS (fun m => performM es m 9 arg) B Y N gc false m0) := by
  have h2 := (h.allocB (cs := #[.slice A0 n0 c0, .slice A1 n1 c1, .slice A2 es.length c2]) (t := 33)).allocB (cs := #[.int .i64 9, .int .i64 arg]) (t := 166)
  have hsub : ∀ p ∈ B, p ∈ ((W.alloc (.cells #[.slice A0 n0 c0, .slice A1 n1 c1, .slice A2 es.length c2] 33)).heap.size, Obj.cells #[.int .i64 9, .int .i64 arg] 166 (0, 0)) :: (W.heap.size, Obj.cells #[.slice A0 n0 c0, .slice A1 n1 c1, .slice A2 es.length c2] 33 (0, 0)) :: B := fun p hp => List.mem_cons_of_mem _ (List.mem_cons_of_mem _ hp)
  obtain ⟨spv, hspv⟩ : ∃ v, m.Sp = v := ⟨_, rfl⟩
  have hwp : wrap64 (m.Pc + (n : Int)) = m.Pc + (n : Int) := wrap64_small (by omega) (by omega)
  have hipc : I64 (m.Pc + (n : Int)) := ⟨by omega, by omega⟩
  go_enter Try.func128, Try.ntmps128
  go_upto_region 1 with (fail)
  rw [World.size_alloc] at h2 hsub
  generalize (W.alloc (.cells #[.slice A0 n0 c0, .slice A1 n1 c1, .slice A2 es.length c2] 33)).alloc (.cells #[.int .i64 9, .int .i64 arg] 166) = W1 at h2 ⊢
  obtain ⟨gs, hgs⟩ : ∃ g, W.heap.size = g := ⟨_, rfl⟩
  rw [hgs] at h2 hsub ⊢
  obtain ⟨BB, hBB⟩ : ∃ X, (gs + 1, Obj.cells #[.int .i64 9, .int .i64 arg] 166 (0, 0)) :: (gs, Obj.cells #[.slice A0 n0 c0, .slice A1 n1 c1, .slice A2 es.length c2] 33 (0, 0)) :: B = X := ⟨_, rfl⟩
  have hop : (gs + 1, Obj.cells #[.int .i64 9, .int .i64 arg] 166 (0, 0)) ∈ BB := by rw [← hBB]; exact List.mem_cons_self
  have hsp : (gs, Obj.cells #[.slice A0 n0 c0, .slice A1 n1 c1, .slice A2 es.length c2] 33 (0, 0)) ∈ BB := by rw [← hBB]; exact List.mem_cons_of_mem _ List.mem_cons_self
  rw [hBB] at h2 hsub
  clear hBB hgs
  have H9 := Lib.hid h2
  have HS := Lib.hid hsub
  clear h h2 hsub
  obtain ⟨A, c, Ao, co, z0, z1, z2, z3, z4, z5, z6, z7, zf, zl, hk⟩ := H9.out.cells
  obtain ⟨p0, p1, pf0, pf1, pl⟩ := box2 (H9.out.kept hop)
  obtain ⟨q0, q1, q2, qf, ql⟩ := row3 (H9.out.kept hsp)
  go_upto_region 3 with (fail)
  have hC0 := H9.out.num (i := 0) (v := .int .i64 (m.Pc + (n : Int))) (bad' := false) (m' := { m with Pc := m.Pc + (n : Int) }) rfl rfl ⟨hk.len, hk.out, hipc, hk.sp, hk.fp, hk.st, hk.va⟩ (fun _ _ => rfl)
  have hpb : -4611686018427387904 ≤ ({ m with Pc := m.Pc + (n : Int) } : DMachine).Pc ∧ ({ m with Pc := m.Pc + (n : Int) } : DMachine).Pc ≤ 4611686018427387904 := ⟨by show _ ≤ m.Pc + (n : Int); omega, by show m.Pc + (n : Int) ≤ _; omega⟩
  have hs0 : ({ m with Pc := m.Pc + (n : Int) } : DMachine).Sp = spv := hspv
  rw [hm0] at hC0 hpb hs0
  generalize W1.setCell ⟨gc, 0, none⟩ (.int .i64 (m.Pc + (n : Int))) = w0 at hC0 ⊢
  have HB := Lib.hid hpb
  have HSP := Lib.hid hs0
  clear hspv hwp hipc hpb hs0 H9 hk hp hn
  have H0 := Lib.hid hC0
  clear hC0
  clear z0 z1 z2 z3 z4 z5 z6 z7 zf zl p0 p1 pf0 pf1 pl q0 q1 q2 qf ql
  obtain ⟨A, c, Ao, co, z0, z1, z2, z3, z4, z5, z6, z7, zf, zl, hk⟩ := H0.out.cells
  obtain ⟨p0, p1, pf0, pf1, pl⟩ := box2 (H0.out.kept hop)
  obtain ⟨q0, q1, q2, qf, ql⟩ := row3 (H0.out.kept hsp)
  go_upto_region 5 with (go_at_call 148; (with_reducible refine (pop_s H0.out).mono ?_); rintro e w1 ⟨v1, b1, m1, hv1, rfl, hC1, ho1⟩)
  have H1 := Lib.hid hC1
  clear hC1
  clear z0 z1 z2 z3 z4 z5 z6 z7 zf zl p0 p1 pf0 pf1 pl q0 q1 q2 qf ql
  obtain ⟨A, c, Ao, co, z0, z1, z2, z3, z4, z5, z6, z7, zf, zl, hk⟩ := H1.out.cells
  obtain ⟨p0, p1, pf0, pf1, pl⟩ := box2 (H1.out.kept hop)
  obtain ⟨q0, q1, q2, qf, ql⟩ := row3 (H1.out.kept hsp)
  go_upto_region 6 with (go_at_call 148; (with_reducible refine (pop_s H1.out).mono ?_); rintro e w2 ⟨v2, b2, m2, hv2, rfl, hC2, ho2⟩)
  have H2 := Lib.hid hC2
  clear hC2
  clear z0 z1 z2 z3 z4 z5 z6 z7 zf zl p0 p1 pf0 pf1 pl q0 q1 q2 qf ql
  obtain ⟨A, c, Ao, co, z0, z1, z2, z3, z4, z5, z6, z7, zf, zl, hk⟩ := H2.out.cells
  obtain ⟨p0, p1, pf0, pf1, pl⟩ := box2 (H2.out.kept hop)
  obtain ⟨q0, q1, q2, qf, ql⟩ := row3 (H2.out.kept hsp)
  go_wp2_with (first | (go_at_call 151; (with_reducible refine (applyC_s (k := 6) (a := v2) (b := v1) (by omega) hv2 hv1).mono ?_); rintro e w3 ⟨rfl, rfl⟩) | (go_at_call 145; (with_reducible refine (push_s H2.out (applyC_bd 9 v2 v1)).mono ?_); rintro e w4 ⟨rfl, b4, m4, hC4, ho4⟩))
  exact bodyPost_end (v := .tuple #[]) (by simp [results, Try.results128, go_sem]) rfl ⟨rfl, _, _, (hC4).drop HS.out, by rw [pmA_f (by omega), cPop_opt (K := fun p => (cPop p.1).bind fun q => cPush q.1 (applyC 9 q.2 p.2)) ho1, cPop_opt (K := fun q => cPush q.1 (applyC 9 q.2 v1)) ho2]; exact ho4⟩
set_option maxRecDepth 100000 in
set_option maxHeartbeats 2000000 in
theorem perform_s10 {B : List (Nat × Obj)} {Y W : World} {N gc : Nat} {m m0 : DMachine} {es : List Int} {A0 A1 A2 : Option Addr} {n0 n1 c0 c1 c2 n : Nat} {arg : Int} (h : StS B Y W N gc false m) (hm0 : ({ m with Pc := m.Pc + (n : Int) } : DMachine) = m0) (hp : -1152921504606846976 ≤ m.Pc ∧ m.Pc ≤ 1152921504606846976) (hn : n ≤ 5) (ha : -32768 ≤ arg ∧ arg ≤ 32767) :
    Calls Try.prog 128 #[.agg #[.slice A0 n0 c0, .slice A1 n1 c1, .slice A2 es.length c2], .pointer (some ⟨gc, 0, none⟩), .agg #[.int .i64 10, .int .i64 arg], .int .i64 n] W (ActS (fun m => performM es m 10 arg) B Y N gc false m0) := by
  have h2 := (h.allocB (cs := #[.slice A0 n0 c0, .slice A1 n1 c1, .slice A2 es.length c2]) (t := 33)).allocB (cs := #[.int .i64 10, .int .i64 arg]) (t := 166)
  have hsub : ∀ p ∈ B, p ∈ ((W.alloc (.cells #[.slice A0 n0 c0, .slice A1 n1 c1, .slice A2 es.length c2] 33)).heap.size, Obj.cells #[.int .i64 10, .int .i64 arg] 166 (0, 0)) :: (W.heap.size, Obj.cells #[.slice A0 n0 c0, .slice A1 n1 c1, .slice A2 es.length c2] 33 (0, 0)) :: B := fun p hp => List.mem_cons_of_mem _ (List.mem_cons_of_mem _ hp)
  obtain ⟨spv, hspv⟩ : ∃ v, m.Sp = v := ⟨_, rfl⟩
  have hwp : wrap64 (m.Pc + (n : Int)) = m.Pc + (n : Int) := wrap64_small (by omega) (by omega)
  have hipc : I64 (m.Pc + (n : Int)) := ⟨by omega, by omega⟩
  go_enter Try.func128, Try.ntmps128
  go_upto_region 1 with (fail)
  rw [World.size_alloc] at h2 hsub
  generalize (W.alloc (.cells #[.slice A0 n0 c0, .slice A1 n1 c1, .slice A2 es.length c2] 33)).alloc (.cells #[.int .i64 10, .int .i64 arg] 166) = W1 at h2 ⊢
  obtain ⟨gs, hgs⟩ : ∃ g, W.heap.size = g := ⟨_, rfl⟩
  rw [hgs] at h2 hsub ⊢
  obtain ⟨BB, hBB⟩ : ∃ X, (gs + 1, Obj.cells #[.int .i64 10, .int .i64 arg] 166 (0, 0)) :: (gs, Obj.cells #[.slice A0 n0 c0, .slice A1 n1 c1, .slice A2 es.length c2] 33 (0, 0)) :: B = X := ⟨_, rfl⟩
  have hop : (gs + 1, Obj.cells #[.int .i64 10, .int .i64 arg] 166 (0, 0)) ∈ BB := by rw [← hBB]; exact List.mem_cons_self
  have hsp : (gs, Obj.cells #[.slice A0 n0 c0, .slice A1 n1 c1, .slice A2 es.length c2] 33 (0, 0)) ∈ BB := by rw [← hBB]; exact List.mem_cons_of_mem _ List.mem_cons_self
  rw [hBB] at h2 hsub
  clear hBB hgs
  have H9 := Lib.hid h2
  have HS := Lib.hid hsub
  clear h h2 hsub
  obtain ⟨A, c, Ao, co, z0, z1, z2, z3, z4, z5, z6, z7, zf, zl, hk⟩ := H9.out.cells
  obtain ⟨p0, p1, pf0, pf1, pl⟩ := box2 (H9.out.kept hop)
  obtain ⟨q0, q1, q2, qf, ql⟩ := row3 (H9.out.kept hsp)
  go_upto_region 3 with (fail)
  have hC0 := H9.out.num (i := 0) (v := .int .i64 (m.Pc + (n : Int))) (bad' := false) (m' := { m with Pc := m.Pc + (n : Int) }) rfl rfl ⟨hk.len, hk.out, hipc, hk.sp, hk.fp, hk.st, hk.va⟩ (fun _ _ => rfl)
  have hpb : -4611686018427387904 ≤ ({ m with Pc := m.Pc + (n : Int) } : DMachine).Pc ∧ ({ m with Pc := m.Pc + (n : Int) } : DMachine).Pc ≤ 4611686018427387904 := ⟨by show _ ≤ m.Pc + (n : Int); omega, by show m.Pc + (n : Int) ≤ _; omega⟩
  have hs0 : ({ m with Pc := m.Pc + (n : Int) } : DMachine).Sp = spv := hspv
  rw [hm0] at hC0 hpb hs0
  generalize W1.setCell ⟨gc, 0, none⟩ (.int .i64 (m.Pc + (n : Int))) = w0 at hC0 ⊢
  have HB := Lib.hid hpb
  have HSP := Lib.hid hs0
  clear hspv hwp hipc hpb hs0 H9 hk hp hn
  have H0 := Lib.hid hC0
  clear hC0
  clear z0 z1 z2 z3 z4 z5 z6 z7 zf zl p0 p1 pf0 pf1 pl q0 q1 q2 qf ql
  obtain ⟨A, c, Ao, co, z0, z1, z2, z3, z4, z5, z6, z7, zf, zl, hk⟩ := H0.out.cells
  obtain ⟨p0, p1, pf0, pf1, pl⟩ := box2 (H0.out.kept hop)
  obtain ⟨q0, q1, q2, qf, ql⟩ := row3 (H0.out.kept hsp)
  go_upto_region 18 with (fail)
  refine region_tail 12 (by kernel_rfl) (by kernel_rfl) (fun wx hgx => ?_)
  have HX := Lib.hid (H0.out.gro hgx)
  clear z0 z1 z2 z3 z4 z5 z6 z7 zf zl p0 p1 pf0 pf1 pl q0 q1 q2 qf ql
  obtain ⟨A, c, Ao, co, z0, z1, z2, z3, z4, z5, z6, z7, zf, zl, hk⟩ := HX.out.cells
  obtain ⟨p0, p1, pf0, pf1, pl⟩ := box2 (HX.out.kept hop)
  obtain ⟨q0, q1, q2, qf, ql⟩ := row3 (HX.out.kept hsp)
  simp only [List.take_succ_cons, List.take_zero, List.drop_succ_cons, List.drop_zero]
  repeat still_step
  refine wpStill_nil ?_
  have hpb := HB.out
  have hwr : wrap64 (m0.Pc + arg) = m0.Pc + arg := wrap64_small (by omega) (by omega)
  go_wp2_with (fail)
  have hC1 := HX.out.num (i := 0) (v := .int .i64 (m0.Pc + arg)) (bad' := false) (m' := { m0 with Pc := m0.Pc + arg }) rfl rfl ⟨hk.len, hk.out, ⟨by show _ ≤ m0.Pc + arg; omega, by show m0.Pc + arg ≤ _; omega⟩, hk.sp, hk.fp, hk.st, hk.va⟩ (fun _ _ => rfl)
  exact bodyPost_end (v := .tuple #[]) (by simp [results, Try.results128, go_sem]) rfl ⟨rfl, _, _, (hC1.gro (by repeat (first | with_reducible exact Gro.refl _ | with_reducible exact Gro.refl_drew _ _ _ | with_reducible exact Gro.refl_drewN _ _ _ _ | assumption | with_reducible apply Gro.more | with_reducible apply Gro.alloc | with_reducible apply Gro.drew | with_reducible apply Gro.drewN))).drop HS.out, rfl⟩
set_option maxRecDepth 100000 in
set_option maxHeartbeats 2000000 in
theorem perform_s11 {B : List (Nat × Obj)} {Y W : World} {N gc : Nat} {m m0 : DMachine} {es : List Int} {A0 A1 A2 : Option Addr} {n0 n1 c0 c1 c2 n : Nat} {arg : Int} (h : StS B Y W N gc false m) (hm0 : ({ m with Pc := m.Pc + (n : Int) } : DMachine) = m0) (hp : -1152921504606846976 ≤ m.Pc ∧ m.Pc ≤ 1152921504606846976) (hn : n ≤ 5) (ha : -32768 ≤ arg ∧ arg ≤ 32767) :
    Calls Try.prog 128 #[.agg #[.slice A0 n0 c0, .slice A1 n1 c1, .slice A2 es.length c2], .pointer (some ⟨gc, 0, none⟩), .agg #[.int .i64 11, .int .i64 arg], .int .i64 n] W (ActS (fun m => performM es m 11 arg) B Y N gc false m0) := by
  have h2 := (h.allocB (cs := #[.slice A0 n0 c0, .slice A1 n1 c1, .slice A2 es.length c2]) (t := 33)).allocB (cs := #[.int .i64 11, .int .i64 arg]) (t := 166)
  have hsub : ∀ p ∈ B, p ∈ ((W.alloc (.cells #[.slice A0 n0 c0, .slice A1 n1 c1, .slice A2 es.length c2] 33)).heap.size, Obj.cells #[.int .i64 11, .int .i64 arg] 166 (0, 0)) :: (W.heap.size, Obj.cells #[.slice A0 n0 c0, .slice A1 n1 c1, .slice A2 es.length c2] 33 (0, 0)) :: B := fun p hp => List.mem_cons_of_mem _ (List.mem_cons_of_mem _ hp)
  obtain ⟨spv, hspv⟩ : ∃ v, m.Sp = v := ⟨_, rfl⟩
  have hwp : wrap64 (m.Pc + (n : Int)) = m.Pc + (n : Int) := wrap64_small (by omega) (by omega)
  have hipc : I64 (m.Pc + (n : Int)) := ⟨by omega, by omega⟩
  go_enter Try.func128, Try.ntmps128
  go_upto_region 1 with (fail)
  rw [World.size_alloc] at h2 hsub
  generalize (W.alloc (.cells #[.slice A0 n0 c0, .slice A1 n1 c1, .slice A2 es.length c2] 33)).alloc (.cells #[.int .i64 11, .int .i64 arg] 166) = W1 at h2 ⊢
  obtain ⟨gs, hgs⟩ : ∃ g, W.heap.size = g := ⟨_, rfl⟩
  rw [hgs] at h2 hsub ⊢
  obtain ⟨BB, hBB⟩ : ∃ X, (gs + 1, Obj.cells #[.int .i64 11, .int .i64 arg] 166 (0, 0)) :: (gs, Obj.cells #[.slice A0 n0 c0, .slice A1 n1 c1, .slice A2 es.length c2] 33 (0, 0)) :: B = X := ⟨_, rfl⟩
  have hop : (gs + 1, Obj.cells #[.int .i64 11, .int .i64 arg] 166 (0, 0)) ∈ BB := by rw [← hBB]; exact List.mem_cons_self
  have hsp : (gs, Obj.cells #[.slice A0 n0 c0, .slice A1 n1 c1, .slice A2 es.length c2] 33 (0, 0)) ∈ BB := by rw [← hBB]; exact List.mem_cons_of_mem _ List.mem_cons_self
  rw [hBB] at h2 hsub
  clear hBB hgs
  have H9 := Lib.hid h2
  have HS := Lib.hid hsub
  clear h h2 hsub
  obtain ⟨A, c, Ao, co, z0, z1, z2, z3, z4, z5, z6, z7, zf, zl, hk⟩ := H9.out.cells
  obtain ⟨p0, p1, pf0, pf1, pl⟩ := box2 (H9.out.kept hop)
  obtain ⟨q0, q1, q2, qf, ql⟩ := row3 (H9.out.kept hsp)
  go_upto_region 3 with (fail)
  have hC0 := H9.out.num (i := 0) (v := .int .i64 (m.Pc + (n : Int))) (bad' := false) (m' := { m with Pc := m.Pc + (n : Int) }) rfl rfl ⟨hk.len, hk.out, hipc, hk.sp, hk.fp, hk.st, hk.va⟩ (fun _ _ => rfl)
  have hpb : -4611686018427387904 ≤ ({ m with Pc := m.Pc + (n : Int) } : DMachine).Pc ∧ ({ m with Pc := m.Pc + (n : Int) } : DMachine).Pc ≤ 4611686018427387904 := ⟨by show _ ≤ m.Pc + (n : Int); omega, by show m.Pc + (n : Int) ≤ _; omega⟩
  have hs0 : ({ m with Pc := m.Pc + (n : Int) } : DMachine).Sp = spv := hspv
  rw [hm0] at hC0 hpb hs0
  generalize W1.setCell ⟨gc, 0, none⟩ (.int .i64 (m.Pc + (n : Int))) = w0 at hC0 ⊢
  have HB := Lib.hid hpb
  have HSP := Lib.hid hs0
  clear hspv hwp hipc hpb hs0 H9 hk hp hn
  have H0 := Lib.hid hC0
  clear hC0
  clear z0 z1 z2 z3 z4 z5 z6 z7 zf zl p0 p1 pf0 pf1 pl q0 q1 q2 qf ql
  obtain ⟨A, c, Ao, co, z0, z1, z2, z3, z4, z5, z6, z7, zf, zl, hk⟩ := H0.out.cells
  obtain ⟨p0, p1, pf0, pf1, pl⟩ := box2 (H0.out.kept hop)
  obtain ⟨q0, q1, q2, qf, ql⟩ := row3 (H0.out.kept hsp)
  go_upto_if 116 with (go_at_call 148; (with_reducible refine (pop_s H0.out).mono ?_); rintro e w1 ⟨v1, b1, m1, hv1, rfl, hC1, ho1⟩)
  have H1 := Lib.hid hC1
  clear hC1
  clear z0 z1 z2 z3 z4 z5 z6 z7 zf zl p0 p1 pf0 pf1 pl q0 q1 q2 qf ql
  obtain ⟨A, c, Ao, co, z0, z1, z2, z3, z4, z5, z6, z7, zf, zl, hk⟩ := H1.out.cells
  obtain ⟨p0, p1, pf0, pf1, pl⟩ := box2 (H1.out.kept hop)
  obtain ⟨q0, q1, q2, qf, ql⟩ := row3 (H1.out.kept hsp)
  by_cases hz : v1 = 0
  · subst hz
    go_upto_region 21 with (fail)
    refine region_tail 12 (by kernel_rfl) (by kernel_rfl) (fun wx hgx => ?_)
    have HX := Lib.hid (H1.out.gro hgx)
    clear z0 z1 z2 z3 z4 z5 z6 z7 zf zl p0 p1 pf0 pf1 pl q0 q1 q2 qf ql
    obtain ⟨A, c, Ao, co, z0, z1, z2, z3, z4, z5, z6, z7, zf, zl, hk⟩ := HX.out.cells
    obtain ⟨p0, p1, pf0, pf1, pl⟩ := box2 (HX.out.kept hop)
    obtain ⟨q0, q1, q2, qf, ql⟩ := row3 (HX.out.kept hsp)
    simp only [List.take_succ_cons, List.take_zero, List.drop_succ_cons, List.drop_zero]
    repeat still_step
    refine wpStill_nil ?_
    go_wp2_with (fail)
    have hC2 := HX.out.num (i := 0) (v := .int .i64 (wrap64 (m1.Pc + arg))) (bad' := b1) (m' := { m1 with Pc := wrap64 (m1.Pc + arg) }) rfl rfl ⟨hk.len, hk.out, wrap64_I (m1.Pc + arg), hk.sp, hk.fp, hk.st, hk.va⟩ (fun _ _ => rfl)
    exact bodyPost_end (v := .tuple #[]) (by simp [results, Try.results128, go_sem]) rfl ⟨rfl, _, _, (hC2.gro (by repeat (first | with_reducible exact Gro.refl _ | with_reducible exact Gro.refl_drew _ _ _ | with_reducible exact Gro.refl_drewN _ _ _ _ | assumption | with_reducible apply Gro.more | with_reducible apply Gro.alloc | with_reducible apply Gro.drew | with_reducible apply Gro.drewN))).drop HS.out, zero_opt ho1 HB.out ha⟩
  · go_wp2_with (fail)
    exact bodyPost_end (v := .tuple #[]) (by simp [results, Try.results128, go_sem]) rfl ⟨rfl, _, _, (H1.out).drop HS.out, nz_opt ho1 hz⟩
set_option maxRecDepth 100000 in
set_option maxHeartbeats 2000000 in
theorem perform_s12 {B : List (Nat × Obj)} {Y W : World} {N gc : Nat} {m m0 : DMachine} {es : List Int} {A0 A1 A2 : Option Addr} {n0 n1 c0 c1 c2 n : Nat} {arg : Int} (h : StS B Y W N gc false m) (hm0 : ({ m with Pc := m.Pc + (n : Int) } : DMachine) = m0) (hp : -1152921504606846976 ≤ m.Pc ∧ m.Pc ≤ 1152921504606846976) (hn : n ≤ 5) (he : (intT.sl 3).R Y Y.heap.size [.slice A2 es.length c2] es) (hes : es.length ≤ 9223372036854775807) (ha : 0 ≤ arg ∧ arg ≤ 255) :
    Calls Try.prog 128 #[.agg #[.slice A0 n0 c0, .slice A1 n1 c1, .slice A2 es.length c2], .pointer (some ⟨gc, 0, none⟩), .agg #[.int .i64 12, .int .i64 arg], .int .i64 n] W (ActS (fun m => performM es m 12 arg) B Y N gc false m0) := by
  have h2 := (h.allocB (cs := #[.slice A0 n0 c0, .slice A1 n1 c1, .slice A2 es.length c2]) (t := 33)).allocB (cs := #[.int .i64 12, .int .i64 arg]) (t := 166)
  have hsub : ∀ p ∈ B, p ∈ ((W.alloc (.cells #[.slice A0 n0 c0, .slice A1 n1 c1, .slice A2 es.length c2] 33)).heap.size, Obj.cells #[.int .i64 12, .int .i64 arg] 166 (0, 0)) :: (W.heap.size, Obj.cells #[.slice A0 n0 c0, .slice A1 n1 c1, .slice A2 es.length c2] 33 (0, 0)) :: B := fun p hp => List.mem_cons_of_mem _ (List.mem_cons_of_mem _ hp)
  obtain ⟨spv, hspv⟩ : ∃ v, m.Sp = v := ⟨_, rfl⟩
  have hwp : wrap64 (m.Pc + (n : Int)) = m.Pc + (n : Int) := wrap64_small (by omega) (by omega)
  have hipc : I64 (m.Pc + (n : Int)) := ⟨by omega, by omega⟩
  go_enter Try.func128, Try.ntmps128
  go_upto_region 1 with (fail)
  rw [World.size_alloc] at h2 hsub
  generalize (W.alloc (.cells #[.slice A0 n0 c0, .slice A1 n1 c1, .slice A2 es.length c2] 33)).alloc (.cells #[.int .i64 12, .int .i64 arg] 166) = W1 at h2 ⊢
  obtain ⟨gs, hgs⟩ : ∃ g, W.heap.size = g := ⟨_, rfl⟩
  rw [hgs] at h2 hsub ⊢
  obtain ⟨BB, hBB⟩ : ∃ X, (gs + 1, Obj.cells #[.int .i64 12, .int .i64 arg] 166 (0, 0)) :: (gs, Obj.cells #[.slice A0 n0 c0, .slice A1 n1 c1, .slice A2 es.length c2] 33 (0, 0)) :: B = X := ⟨_, rfl⟩
  have hop : (gs + 1, Obj.cells #[.int .i64 12, .int .i64 arg] 166 (0, 0)) ∈ BB := by rw [← hBB]; exact List.mem_cons_self
  have hsp : (gs, Obj.cells #[.slice A0 n0 c0, .slice A1 n1 c1, .slice A2 es.length c2] 33 (0, 0)) ∈ BB := by rw [← hBB]; exact List.mem_cons_of_mem _ List.mem_cons_self
  rw [hBB] at h2 hsub
  clear hBB hgs
  have H9 := Lib.hid h2
  have HS := Lib.hid hsub
  clear h h2 hsub
  obtain ⟨A, c, Ao, co, z0, z1, z2, z3, z4, z5, z6, z7, zf, zl, hk⟩ := H9.out.cells
  obtain ⟨p0, p1, pf0, pf1, pl⟩ := box2 (H9.out.kept hop)
  obtain ⟨q0, q1, q2, qf, ql⟩ := row3 (H9.out.kept hsp)
  go_upto_region 3 with (fail)
  have hC0 := H9.out.num (i := 0) (v := .int .i64 (m.Pc + (n : Int))) (bad' := false) (m' := { m with Pc := m.Pc + (n : Int) }) rfl rfl ⟨hk.len, hk.out, hipc, hk.sp, hk.fp, hk.st, hk.va⟩ (fun _ _ => rfl)
  have hpb : -4611686018427387904 ≤ ({ m with Pc := m.Pc + (n : Int) } : DMachine).Pc ∧ ({ m with Pc := m.Pc + (n : Int) } : DMachine).Pc ≤ 4611686018427387904 := ⟨by show _ ≤ m.Pc + (n : Int); omega, by show m.Pc + (n : Int) ≤ _; omega⟩
  have hs0 : ({ m with Pc := m.Pc + (n : Int) } : DMachine).Sp = spv := hspv
  rw [hm0] at hC0 hpb hs0
  generalize W1.setCell ⟨gc, 0, none⟩ (.int .i64 (m.Pc + (n : Int))) = w0 at hC0 ⊢
  have HB := Lib.hid hpb
  have HSP := Lib.hid hs0
  clear hspv hwp hipc hpb hs0 H9 hk hp hn
  have H0 := Lib.hid hC0
  clear hC0
  clear z0 z1 z2 z3 z4 z5 z6 z7 zf zl p0 p1 pf0 pf1 pl q0 q1 q2 qf ql
  obtain ⟨A, c, Ao, co, z0, z1, z2, z3, z4, z5, z6, z7, zf, zl, hk⟩ := H0.out.cells
  obtain ⟨p0, p1, pf0, pf1, pl⟩ := box2 (H0.out.kept hop)
  obtain ⟨q0, q1, q2, qf, ql⟩ := row3 (H0.out.kept hsp)
  have hpc := hk.pc
  by_cases hlt : arg < (es.length : Int)
  · have hge : ¬ ((es.length : Int) ≤ arg) := by omega
    go_upto_region 26 with (go_at_call 145; (with_reducible refine (push_s H0.out hpc).mono ?_); rintro e w1 ⟨rfl, b1, m1, hC1, ho1⟩)
    have H1 := Lib.hid hC1
    clear hC1
    clear z0 z1 z2 z3 z4 z5 z6 z7 zf zl p0 p1 pf0 pf1 pl q0 q1 q2 qf ql
    obtain ⟨A, c, Ao, co, z0, z1, z2, z3, z4, z5, z6, z7, zf, zl, hk⟩ := H1.out.cells
    obtain ⟨p0, p1, pf0, pf1, pl⟩ := box2 (H1.out.kept hop)
    obtain ⟨q0, q1, q2, qf, ql⟩ := row3 (H1.out.kept hsp)
    have hel := Ty.up _ he H1.out.grow
    obtain ⟨a, rfl⟩ := Int.eq_ofNat_of_zero_le ha.1
    obtain ⟨ge, offe, x, rfl, hxk, hcx, bx1, bx2⟩ := ints_at hel (k := a) (by omega)
    go_wp2_with (fail)
    have hC2 := H1.out.num (i := 0) (v := .int .i64 x) (bad' := b1) (m' := { m1 with Pc := x }) rfl rfl ⟨hk.len, hk.out, ⟨bx1, bx2⟩, hk.sp, hk.fp, hk.st, hk.va⟩ (fun _ _ => rfl)
    exact bodyPost_end (v := .tuple #[]) (by simp [results, Try.results128, go_sem]) rfl ⟨rfl, _, _, (hC2).drop HS.out, by rw [pm12_f, cPush_opt2 (f := fun m => m.Pc) rfl (K := fun m' => (es[(a : Int).toNat]?).map fun e => { m' with Pc := e }) ho1, Int.toNat_natCast, hxk]; cases b1 <;> rfl⟩
  · have hge : (es.length : Int) ≤ arg := by omega
    go_wp2_with (fail)
    have hC2 := H0.out.num (i := 7) (v := .bool true) (bad' := true) (m' := m0) rfl rfl hk (fun _ _ => rfl)
    exact bodyPost_ret (v := .tuple #[]) (by simp [results, Try.results128, go_sem]) rfl ⟨rfl, _, _, (hC2).drop HS.out, by rw [pm12_f, List.getElem?_eq_none (by omega)]; show none = (cPush m0 m0.Pc).bind _; cases cPush m0 m0.Pc <;> rfl⟩
set_option maxRecDepth 100000 in
set_option maxHeartbeats 2000000 in
theorem perform_s13 {B : List (Nat × Obj)} {Y W : World} {N gc : Nat} {m m0 : DMachine} {es : List Int} {A0 A1 A2 : Option Addr} {n0 n1 c0 c1 c2 n : Nat} {arg : Int} (h : StS B Y W N gc false m) (hm0 : ({ m with Pc := m.Pc + (n : Int) } : DMachine) = m0) (hp : -1152921504606846976 ≤ m.Pc ∧ m.Pc ≤ 1152921504606846976) (hn : n ≤ 5) (ha : 0 ≤ arg ∧ arg ≤ 255) :
    Calls Try.prog 128 #[.agg #[.slice A0 n0 c0, .slice A1 n1 c1, .slice A2 es.length c2], .pointer (some ⟨gc, 0, none⟩), .agg #[.int .i64 13, .int .i64 arg], .int .i64 n] W (ActS (fun m => performM es m 13 arg) B Y N gc false m0) := by
  have h2 := (h.allocB (cs := #[.slice A0 n0 c0, .slice A1 n1 c1, .slice A2 es.length c2]) (t := 33)).allocB (cs := #[.int .i64 13, .int .i64 arg]) (t := 166)
  have hsub : ∀ p ∈ B, p ∈ ((W.alloc (.cells #[.slice A0 n0 c0, .slice A1 n1 c1, .slice A2 es.length c2] 33)).heap.size, Obj.cells #[.int .i64 13, .int .i64 arg] 166 (0, 0)) :: (W.heap.size, Obj.cells #[.slice A0 n0 c0, .slice A1 n1 c1, .slice A2 es.length c2] 33 (0, 0)) :: B := fun p hp => List.mem_cons_of_mem _ (List.mem_cons_of_mem _ hp)
  obtain ⟨spv, hspv⟩ : ∃ v, m.Sp = v := ⟨_, rfl⟩
  have hwp : wrap64 (m.Pc + (n : Int)) = m.Pc + (n : Int) := wrap64_small (by omega) (by omega)
  have hipc : I64 (m.Pc + (n : Int)) := ⟨by omega, by omega⟩
  go_enter Try.func128, Try.ntmps128
  go_upto_region 1 with (fail)
  rw [World.size_alloc] at h2 hsub
  generalize (W.alloc (.cells #[.slice A0 n0 c0, .slice A1 n1 c1, .slice A2 es.length c2] 33)).alloc (.cells #[.int .i64 13, .int .i64 arg] 166) = W1 at h2 ⊢
  obtain ⟨gs, hgs⟩ : ∃ g, W.heap.size = g := ⟨_, rfl⟩
  rw [hgs] at h2 hsub ⊢
  obtain ⟨BB, hBB⟩ : ∃ X, (gs + 1, Obj.cells #[.int .i64 13, .int .i64 arg] 166 (0, 0)) :: (gs, Obj.cells #[.slice A0 n0 c0, .slice A1 n1 c1, .slice A2 es.length c2] 33 (0, 0)) :: B = X := ⟨_, rfl⟩
  have hop : (gs + 1, Obj.cells #[.int .i64 13, .int .i64 arg] 166 (0, 0)) ∈ BB := by rw [← hBB]; exact List.mem_cons_self
  have hsp : (gs, Obj.cells #[.slice A0 n0 c0, .slice A1 n1 c1, .slice A2 es.length c2] 33 (0, 0)) ∈ BB := by rw [← hBB]; exact List.mem_cons_of_mem _ List.mem_cons_self
  rw [hBB] at h2 hsub
  clear hBB hgs
  have H9 := Lib.hid h2
  have HS := Lib.hid hsub
  clear h h2 hsub
  obtain ⟨A, c, Ao, co, z0, z1, z2, z3, z4, z5, z6, z7, zf, zl, hk⟩ := H9.out.cells
  obtain ⟨p0, p1, pf0, pf1, pl⟩ := box2 (H9.out.kept hop)
  obtain ⟨q0, q1, q2, qf, ql⟩ := row3 (H9.out.kept hsp)
  go_upto_region 3 with (fail)
  have hC0 := H9.out.num (i := 0) (v := .int .i64 (m.Pc + (n : Int))) (bad' := false) (m' := { m with Pc := m.Pc + (n : Int) }) rfl rfl ⟨hk.len, hk.out, hipc, hk.sp, hk.fp, hk.st, hk.va⟩ (fun _ _ => rfl)
  have hpb : -4611686018427387904 ≤ ({ m with Pc := m.Pc + (n : Int) } : DMachine).Pc ∧ ({ m with Pc := m.Pc + (n : Int) } : DMachine).Pc ≤ 4611686018427387904 := ⟨by show _ ≤ m.Pc + (n : Int); omega, by show m.Pc + (n : Int) ≤ _; omega⟩
  have hs0 : ({ m with Pc := m.Pc + (n : Int) } : DMachine).Sp = spv := hspv
  rw [hm0] at hC0 hpb hs0
  generalize W1.setCell ⟨gc, 0, none⟩ (.int .i64 (m.Pc + (n : Int))) = w0 at hC0 ⊢
  have HB := Lib.hid hpb
  have HSP := Lib.hid hs0
  clear hspv hwp hipc hpb hs0 H9 hk hp hn
  have H0 := Lib.hid hC0
  clear hC0
  clear z0 z1 z2 z3 z4 z5 z6 z7 zf zl p0 p1 pf0 pf1 pl q0 q1 q2 qf ql
  obtain ⟨A, c, Ao, co, z0, z1, z2, z3, z4, z5, z6, z7, zf, zl, hk⟩ := H0.out.cells
  obtain ⟨p0, p1, pf0, pf1, pl⟩ := box2 (H0.out.kept hop)
  obtain ⟨q0, q1, q2, qf, ql⟩ := row3 (H0.out.kept hsp)
  have hfp := hk.fp
  go_upto_region 29 with (go_at_call 145; (with_reducible refine (push_s H0.out hfp).mono ?_); rintro e w1 ⟨rfl, b1, m1, hC1, ho1⟩)
  have H1 := Lib.hid hC1
  clear hC1
  clear z0 z1 z2 z3 z4 z5 z6 z7 zf zl p0 p1 pf0 pf1 pl q0 q1 q2 qf ql
  obtain ⟨A, c, Ao, co, z0, z1, z2, z3, z4, z5, z6, z7, zf, zl, hk⟩ := H1.out.cells
  obtain ⟨p0, p1, pf0, pf1, pl⟩ := box2 (H1.out.kept hop)
  obtain ⟨q0, q1, q2, qf, ql⟩ := row3 (H1.out.kept hsp)
  go_upto_region 30 with (fail)
  have hC2 := H1.out.num (i := 2) (v := .int .i64 m1.Sp) (bad' := b1) (m' := { m1 with Fp := m1.Sp }) rfl rfl ⟨hk.len, hk.out, hk.pc, hk.sp, hk.sp, hk.st, hk.va⟩ (fun _ _ => rfl)
  generalize w1.setCell ⟨gc, 2, none⟩ (.int .i64 m1.Sp) = w2 at hC2 ⊢
  have H2 := Lib.hid hC2
  clear hC2
  clear z0 z1 z2 z3 z4 z5 z6 z7 zf zl p0 p1 pf0 pf1 pl q0 q1 q2 qf ql
  obtain ⟨A, c, Ao, co, z0, z1, z2, z3, z4, z5, z6, z7, zf, zl, hk⟩ := H2.out.cells
  obtain ⟨p0, p1, pf0, pf1, pl⟩ := box2 (H2.out.kept hop)
  obtain ⟨q0, q1, q2, qf, ql⟩ := row3 (H2.out.kept hsp)
  go_wp2_with (go_at_call 149; (with_reducible refine (zeros_s H2.out ha.1 (by omega)).mono ?_); rintro e w3 ⟨rfl, b3, m3, hC3, ho3⟩)
  exact bodyPost_end (v := .tuple #[]) (by simp [results, Try.results128, go_sem]) rfl ⟨rfl, _, _, (hC3).drop HS.out, by rw [ho3, pm13_f, cPush_opt2 (f := fun m => m.Fp) rfl (K := fun m' => cZeros arg.toNat { m' with Fp := m'.Sp }) ho1]; cases b1 <;> rfl⟩
set_option maxRecDepth 100000 in
set_option maxHeartbeats 2000000 in
theorem perform_s15 {B : List (Nat × Obj)} {Y W : World} {N gc : Nat} {m m0 : DMachine} {es : List Int} {A0 A1 A2 : Option Addr} {n0 n1 c0 c1 c2 n : Nat} {arg : Int} (h : StS B Y W N gc false m) (hm0 : ({ m with Pc := m.Pc + (n : Int) } : DMachine) = m0) (hp : -1152921504606846976 ≤ m.Pc ∧ m.Pc ≤ 1152921504606846976) (hn : n ≤ 5) (ha : 0 ≤ arg ∧ arg ≤ 255) :
    Calls Try.prog 128 #[.agg #[.slice A0 n0 c0, .slice A1 n1 c1, .slice A2 es.length c2], .pointer (some ⟨gc, 0, none⟩), .agg #[.int .i64 15, .int .i64 arg], .int .i64 n] W (ActS (fun m => performM es m 15 arg) B Y N gc false m0) := by
  have h2 := (h.allocB (cs := #[.slice A0 n0 c0, .slice A1 n1 c1, .slice A2 es.length c2]) (t := 33)).allocB (cs := #[.int .i64 15, .int .i64 arg]) (t := 166)
  have hsub : ∀ p ∈ B, p ∈ ((W.alloc (.cells #[.slice A0 n0 c0, .slice A1 n1 c1, .slice A2 es.length c2] 33)).heap.size, Obj.cells #[.int .i64 15, .int .i64 arg] 166 (0, 0)) :: (W.heap.size, Obj.cells #[.slice A0 n0 c0, .slice A1 n1 c1, .slice A2 es.length c2] 33 (0, 0)) :: B := fun p hp => List.mem_cons_of_mem _ (List.mem_cons_of_mem _ hp)
  obtain ⟨spv, hspv⟩ : ∃ v, m.Sp = v := ⟨_, rfl⟩
  have hwp : wrap64 (m.Pc + (n : Int)) = m.Pc + (n : Int) := wrap64_small (by omega) (by omega)
  have hipc : I64 (m.Pc + (n : Int)) := ⟨by omega, by omega⟩
  go_enter Try.func128, Try.ntmps128
  go_upto_region 1 with (fail)
  rw [World.size_alloc] at h2 hsub
  generalize (W.alloc (.cells #[.slice A0 n0 c0, .slice A1 n1 c1, .slice A2 es.length c2] 33)).alloc (.cells #[.int .i64 15, .int .i64 arg] 166) = W1 at h2 ⊢
  obtain ⟨gs, hgs⟩ : ∃ g, W.heap.size = g := ⟨_, rfl⟩
  rw [hgs] at h2 hsub ⊢
  obtain ⟨BB, hBB⟩ : ∃ X, (gs + 1, Obj.cells #[.int .i64 15, .int .i64 arg] 166 (0, 0)) :: (gs, Obj.cells #[.slice A0 n0 c0, .slice A1 n1 c1, .slice A2 es.length c2] 33 (0, 0)) :: B = X := ⟨_, rfl⟩
  have hop : (gs + 1, Obj.cells #[.int .i64 15, .int .i64 arg] 166 (0, 0)) ∈ BB := by rw [← hBB]; exact List.mem_cons_self
  have hsp : (gs, Obj.cells #[.slice A0 n0 c0, .slice A1 n1 c1, .slice A2 es.length c2] 33 (0, 0)) ∈ BB := by rw [← hBB]; exact List.mem_cons_of_mem _ List.mem_cons_self
  rw [hBB] at h2 hsub
  clear hBB hgs
  have H9 := Lib.hid h2
  have HS := Lib.hid hsub
  clear h h2 hsub
  obtain ⟨A, c, Ao, co, z0, z1, z2, z3, z4, z5, z6, z7, zf, zl, hk⟩ := H9.out.cells
  obtain ⟨p0, p1, pf0, pf1, pl⟩ := box2 (H9.out.kept hop)
  obtain ⟨q0, q1, q2, qf, ql⟩ := row3 (H9.out.kept hsp)
  go_upto_region 3 with (fail)
  have hC0 := H9.out.num (i := 0) (v := .int .i64 (m.Pc + (n : Int))) (bad' := false) (m' := { m with Pc := m.Pc + (n : Int) }) rfl rfl ⟨hk.len, hk.out, hipc, hk.sp, hk.fp, hk.st, hk.va⟩ (fun _ _ => rfl)
  have hpb : -4611686018427387904 ≤ ({ m with Pc := m.Pc + (n : Int) } : DMachine).Pc ∧ ({ m with Pc := m.Pc + (n : Int) } : DMachine).Pc ≤ 4611686018427387904 := ⟨by show _ ≤ m.Pc + (n : Int); omega, by show m.Pc + (n : Int) ≤ _; omega⟩
  have hs0 : ({ m with Pc := m.Pc + (n : Int) } : DMachine).Sp = spv := hspv
  rw [hm0] at hC0 hpb hs0
  generalize W1.setCell ⟨gc, 0, none⟩ (.int .i64 (m.Pc + (n : Int))) = w0 at hC0 ⊢
  have HB := Lib.hid hpb
  have HSP := Lib.hid hs0
  clear hspv hwp hipc hpb hs0 H9 hk hp hn
  have H0 := Lib.hid hC0
  clear hC0
  clear z0 z1 z2 z3 z4 z5 z6 z7 zf zl p0 p1 pf0 pf1 pl q0 q1 q2 qf ql
  obtain ⟨A, c, Ao, co, z0, z1, z2, z3, z4, z5, z6, z7, zf, zl, hk⟩ := H0.out.cells
  obtain ⟨p0, p1, pf0, pf1, pl⟩ := box2 (H0.out.kept hop)
  obtain ⟨q0, q1, q2, qf, ql⟩ := row3 (H0.out.kept hsp)
  go_wp2_with (go_at_call 149; (with_reducible refine (zeros_s H0.out ha.1 (by omega)).mono ?_); rintro e w1 ⟨rfl, b1, m1, hC1, ho1⟩)
  exact bodyPost_end (v := .tuple #[]) (by simp [results, Try.results128, go_sem]) rfl ⟨rfl, _, _, (hC1).drop HS.out, ho1⟩
set_option maxRecDepth 100000 in
set_option maxHeartbeats 2000000 in
theorem perform_s14 {B : List (Nat × Obj)} {Y W : World} {N gc : Nat} {m m0 : DMachine} {es : List Int} {A0 A1 A2 : Option Addr} {n0 n1 c0 c1 c2 n : Nat} {arg : Int} (h : StS B Y W N gc false m) (hm0 : ({ m with Pc := m.Pc + (n : Int) } : DMachine) = m0) (hp : -1152921504606846976 ≤ m.Pc ∧ m.Pc ≤ 1152921504606846976) (hn : n ≤ 5) (ha : 0 ≤ arg ∧ arg ≤ 255) :
    Calls Try.prog 128 #[.agg #[.slice A0 n0 c0, .slice A1 n1 c1, .slice A2 es.length c2], .pointer (some ⟨gc, 0, none⟩), .agg #[.int .i64 14, .int .i64 arg], .int .i64 n] W (ActS (fun m => performM es m 14 arg) B Y N gc false m0) := by
  have h2 := (h.allocB (cs := #[.slice A0 n0 c0, .slice A1 n1 c1, .slice A2 es.length c2]) (t := 33)).allocB (cs := #[.int .i64 14, .int .i64 arg]) (t := 166)
  have hsub : ∀ p ∈ B, p ∈ ((W.alloc (.cells #[.slice A0 n0 c0, .slice A1 n1 c1, .slice A2 es.length c2] 33)).heap.size, Obj.cells #[.int .i64 14, .int .i64 arg] 166 (0, 0)) :: (W.heap.size, Obj.cells #[.slice A0 n0 c0, .slice A1 n1 c1, .slice A2 es.length c2] 33 (0, 0)) :: B := fun p hp => List.mem_cons_of_mem _ (List.mem_cons_of_mem _ hp)
  obtain ⟨spv, hspv⟩ : ∃ v, m.Sp = v := ⟨_, rfl⟩
  have hwp : wrap64 (m.Pc + (n : Int)) = m.Pc + (n : Int) := wrap64_small (by omega) (by omega)
  have hipc : I64 (m.Pc + (n : Int)) := ⟨by omega, by omega⟩
  go_enter Try.func128, Try.ntmps128
  go_upto_region 1 with (fail)
  rw [World.size_alloc] at h2 hsub
  generalize (W.alloc (.cells #[.slice A0 n0 c0, .slice A1 n1 c1, .slice A2 es.length c2] 33)).alloc (.cells #[.int .i64 14, .int .i64 arg] 166) = W1 at h2 ⊢
  obtain ⟨gs, hgs⟩ : ∃ g, W.heap.size = g := ⟨_, rfl⟩
  rw [hgs] at h2 hsub ⊢
  obtain ⟨BB, hBB⟩ : ∃ X, (gs + 1, Obj.cells #[.int .i64 14, .int .i64 arg] 166 (0, 0)) :: (gs, Obj.cells #[.slice A0 n0 c0, .slice A1 n1 c1, .slice A2 es.length c2] 33 (0, 0)) :: B = X := ⟨_, rfl⟩
  have hop : (gs + 1, Obj.cells #[.int .i64 14, .int .i64 arg] 166 (0, 0)) ∈ BB := by rw [← hBB]; exact List.mem_cons_self
  have hsp : (gs, Obj.cells #[.slice A0 n0 c0, .slice A1 n1 c1, .slice A2 es.length c2] 33 (0, 0)) ∈ BB := by rw [← hBB]; exact List.mem_cons_of_mem _ List.mem_cons_self
  rw [hBB] at h2 hsub
  clear hBB hgs
  have H9 := Lib.hid h2
  have HS := Lib.hid hsub
  clear h h2 hsub
  obtain ⟨A, c, Ao, co, z0, z1, z2, z3, z4, z5, z6, z7, zf, zl, hk⟩ := H9.out.cells
  obtain ⟨p0, p1, pf0, pf1, pl⟩ := box2 (H9.out.kept hop)
  obtain ⟨q0, q1, q2, qf, ql⟩ := row3 (H9.out.kept hsp)
  go_upto_region 3 with (fail)
  have hC0 := H9.out.num (i := 0) (v := .int .i64 (m.Pc + (n : Int))) (bad' := false) (m' := { m with Pc := m.Pc + (n : Int) }) rfl rfl ⟨hk.len, hk.out, hipc, hk.sp, hk.fp, hk.st, hk.va⟩ (fun _ _ => rfl)
  have hpb : -4611686018427387904 ≤ ({ m with Pc := m.Pc + (n : Int) } : DMachine).Pc ∧ ({ m with Pc := m.Pc + (n : Int) } : DMachine).Pc ≤ 4611686018427387904 := ⟨by show _ ≤ m.Pc + (n : Int); omega, by show m.Pc + (n : Int) ≤ _; omega⟩
  have hs0 : ({ m with Pc := m.Pc + (n : Int) } : DMachine).Sp = spv := hspv
  rw [hm0] at hC0 hpb hs0
  generalize W1.setCell ⟨gc, 0, none⟩ (.int .i64 (m.Pc + (n : Int))) = w0 at hC0 ⊢
  have HB := Lib.hid hpb
  have HSP := Lib.hid hs0
  clear hspv hwp hipc hpb hs0 H9 hk hp hn
  have H0 := Lib.hid hC0
  clear hC0
  clear z0 z1 z2 z3 z4 z5 z6 z7 zf zl p0 p1 pf0 pf1 pl q0 q1 q2 qf ql
  obtain ⟨A, c, Ao, co, z0, z1, z2, z3, z4, z5, z6, z7, zf, zl, hk⟩ := H0.out.cells
  obtain ⟨p0, p1, pf0, pf1, pl⟩ := box2 (H0.out.kept hop)
  obtain ⟨q0, q1, q2, qf, ql⟩ := row3 (H0.out.kept hsp)
  go_upto_region 35 with (go_at_call 148; (with_reducible refine (pop_s H0.out).mono ?_); rintro e w1 ⟨v1, b1, m1, hv1, rfl, hC1, ho1⟩)
  have H1 := Lib.hid hC1
  clear hC1
  clear z0 z1 z2 z3 z4 z5 z6 z7 zf zl p0 p1 pf0 pf1 pl q0 q1 q2 qf ql
  obtain ⟨A, c, Ao, co, z0, z1, z2, z3, z4, z5, z6, z7, zf, zl, hk⟩ := H1.out.cells
  obtain ⟨p0, p1, pf0, pf1, pl⟩ := box2 (H1.out.kept hop)
  obtain ⟨q0, q1, q2, qf, ql⟩ := row3 (H1.out.kept hsp)
  obtain ⟨qf1, hqf1⟩ : ∃ q, btw m1.Fp 0 1200 = q := ⟨_, rfl⟩
  have HQF := Lib.hid hqf1
  clear hqf1
  cases qf1 with
  | false =>
    go_wp2_with (go_at_call 44; (with_reducible refine (in_s _ _ _ _).mono ?_); rw [HQF.out]; rintro e w9 ⟨rfl, rfl⟩)
    have hC2 := H1.out.num (i := 7) (v := .bool true) (bad' := true) (m' := m1) rfl rfl hk (fun _ _ => rfl)
    exact bodyPost_ret (v := .tuple #[]) (by simp [results, Try.results128, go_sem]) rfl ⟨rfl, _, _, (hC2).drop HS.out, leave_bad ho1 HQF.out⟩
  | true =>
  go_upto_region 37 with (go_at_call 44; (with_reducible refine (in_s _ _ _ _).mono ?_); rw [HQF.out]; rintro e w9 ⟨rfl, rfl⟩)
  go_upto_region 38 with (fail)
  have hC2 := H1.out.num (i := 1) (v := .int .i64 m1.Fp) (bad' := b1) (m' := { m1 with Sp := m1.Fp }) rfl rfl ⟨hk.len, hk.out, hk.pc, hk.fp, hk.fp, hk.st, hk.va⟩ (fun _ _ => rfl)
  generalize w1.setCell ⟨gc, 1, none⟩ (.int .i64 m1.Fp) = w2 at hC2 ⊢
  have H2 := Lib.hid hC2
  clear hC2
  clear z0 z1 z2 z3 z4 z5 z6 z7 zf zl p0 p1 pf0 pf1 pl q0 q1 q2 qf ql
  obtain ⟨A, c, Ao, co, z0, z1, z2, z3, z4, z5, z6, z7, zf, zl, hk⟩ := H2.out.cells
  obtain ⟨p0, p1, pf0, pf1, pl⟩ := box2 (H2.out.kept hop)
  obtain ⟨q0, q1, q2, qf, ql⟩ := row3 (H2.out.kept hsp)
  go_upto_region 39 with (go_at_call 148; (with_reducible refine (pop_s H2.out).mono ?_); rintro e w3 ⟨v3, b3, m3, hv3, rfl, hC3, ho3⟩; have H3 := Lib.hid hC3; obtain ⟨A, c, Ao, co, z0, z1, z2, z3, z4, z5, z6, z7, zf, zl, hk⟩ := hC3.cells)
  have hC4 := H3.out.num (i := 2) (v := .int .i64 v3) (bad' := b3) (m' := { m3 with Fp := v3 }) rfl rfl ⟨hk.len, hk.out, hk.pc, hk.sp, hv3, hk.st, hk.va⟩ (fun _ _ => rfl)
  generalize w3.setCell ⟨gc, 2, none⟩ (.int .i64 v3) = w4 at hC4 ⊢
  have H4 := Lib.hid hC4
  clear hC4
  clear z0 z1 z2 z3 z4 z5 z6 z7 zf zl p0 p1 pf0 pf1 pl q0 q1 q2 qf ql
  obtain ⟨A, c, Ao, co, z0, z1, z2, z3, z4, z5, z6, z7, zf, zl, hk⟩ := H4.out.cells
  obtain ⟨p0, p1, pf0, pf1, pl⟩ := box2 (H4.out.kept hop)
  obtain ⟨q0, q1, q2, qf, ql⟩ := row3 (H4.out.kept hsp)
  go_upto_region 40 with (go_at_call 148; (with_reducible refine (pop_s H4.out).mono ?_); rintro e w5 ⟨v5, b5, m5, hv5, rfl, hC5, ho5⟩; have H5 := Lib.hid hC5; obtain ⟨A, c, Ao, co, z0, z1, z2, z3, z4, z5, z6, z7, zf, zl, hk⟩ := hC5.cells)
  have hC6 := H5.out.num (i := 0) (v := .int .i64 v5) (bad' := b5) (m' := { m5 with Pc := v5 }) rfl rfl ⟨hk.len, hk.out, hv5, hk.sp, hk.fp, hk.st, hk.va⟩ (fun _ _ => rfl)
  generalize w5.setCell ⟨gc, 0, none⟩ (.int .i64 v5) = w6 at hC6 ⊢
  have H6 := Lib.hid hC6
  clear hC6
  clear z0 z1 z2 z3 z4 z5 z6 z7 zf zl p0 p1 pf0 pf1 pl q0 q1 q2 qf ql
  obtain ⟨A, c, Ao, co, z0, z1, z2, z3, z4, z5, z6, z7, zf, zl, hk⟩ := H6.out.cells
  obtain ⟨p0, p1, pf0, pf1, pl⟩ := box2 (H6.out.kept hop)
  obtain ⟨q0, q1, q2, qf, ql⟩ := row3 (H6.out.kept hsp)
  go_upto_region 41 with (go_at_call 150; (with_reducible refine (drop_s H6.out ha.1 (by omega)).mono ?_); rintro e w7 ⟨rfl, b7, m7, hC7, ho7⟩)
  have H7 := Lib.hid hC7
  clear hC7
  clear z0 z1 z2 z3 z4 z5 z6 z7 zf zl p0 p1 pf0 pf1 pl q0 q1 q2 qf ql
  obtain ⟨A, c, Ao, co, z0, z1, z2, z3, z4, z5, z6, z7, zf, zl, hk⟩ := H7.out.cells
  obtain ⟨p0, p1, pf0, pf1, pl⟩ := box2 (H7.out.kept hop)
  obtain ⟨q0, q1, q2, qf, ql⟩ := row3 (H7.out.kept hsp)
  go_wp2_with (go_at_call 145; (with_reducible refine (push_s H7.out hv1).mono ?_); rintro e w8 ⟨rfl, b8, m8, hC8, ho8⟩)
  exact bodyPost_end (v := .tuple #[]) (by simp [results, Try.results128, go_sem]) rfl ⟨rfl, _, _, (hC8).drop HS.out, leave_opt ho1 ho3 ho5 ho7 ho8⟩
set_option maxRecDepth 100000 in
set_option maxHeartbeats 2000000 in
theorem perform_s16 {B : List (Nat × Obj)} {Y W : World} {N gc : Nat} {m m0 : DMachine} {es : List Int} {A0 A1 A2 : Option Addr} {n0 n1 c0 c1 c2 n : Nat} {arg : Int} (h : StS B Y W N gc false m) (hm0 : ({ m with Pc := m.Pc + (n : Int) } : DMachine) = m0) (hp : -1152921504606846976 ≤ m.Pc ∧ m.Pc ≤ 1152921504606846976) (hn : n ≤ 5) (ha : 0 ≤ arg ∧ arg ≤ 65535) :
    Calls Try.prog 128 #[.agg #[.slice A0 n0 c0, .slice A1 n1 c1, .slice A2 es.length c2], .pointer (some ⟨gc, 0, none⟩), .agg #[.int .i64 16, .int .i64 arg], .int .i64 n] W (ActS (fun m => performM es m 16 arg) B Y N gc false m0) := by
  have h2 := (h.allocB (cs := #[.slice A0 n0 c0, .slice A1 n1 c1, .slice A2 es.length c2]) (t := 33)).allocB (cs := #[.int .i64 16, .int .i64 arg]) (t := 166)
  have hsub : ∀ p ∈ B, p ∈ ((W.alloc (.cells #[.slice A0 n0 c0, .slice A1 n1 c1, .slice A2 es.length c2] 33)).heap.size, Obj.cells #[.int .i64 16, .int .i64 arg] 166 (0, 0)) :: (W.heap.size, Obj.cells #[.slice A0 n0 c0, .slice A1 n1 c1, .slice A2 es.length c2] 33 (0, 0)) :: B := fun p hp => List.mem_cons_of_mem _ (List.mem_cons_of_mem _ hp)
  obtain ⟨spv, hspv⟩ : ∃ v, m.Sp = v := ⟨_, rfl⟩
  have hwp : wrap64 (m.Pc + (n : Int)) = m.Pc + (n : Int) := wrap64_small (by omega) (by omega)
  have hipc : I64 (m.Pc + (n : Int)) := ⟨by omega, by omega⟩
  go_enter Try.func128, Try.ntmps128
  go_upto_region 1 with (fail)
  rw [World.size_alloc] at h2 hsub
  generalize (W.alloc (.cells #[.slice A0 n0 c0, .slice A1 n1 c1, .slice A2 es.length c2] 33)).alloc (.cells #[.int .i64 16, .int .i64 arg] 166) = W1 at h2 ⊢
  obtain ⟨gs, hgs⟩ : ∃ g, W.heap.size = g := ⟨_, rfl⟩
  rw [hgs] at h2 hsub ⊢
  obtain ⟨BB, hBB⟩ : ∃ X, (gs + 1, Obj.cells #[.int .i64 16, .int .i64 arg] 166 (0, 0)) :: (gs, Obj.cells #[.slice A0 n0 c0, .slice A1 n1 c1, .slice A2 es.length c2] 33 (0, 0)) :: B = X := ⟨_, rfl⟩
  have hop : (gs + 1, Obj.cells #[.int .i64 16, .int .i64 arg] 166 (0, 0)) ∈ BB := by rw [← hBB]; exact List.mem_cons_self
  have hsp : (gs, Obj.cells #[.slice A0 n0 c0, .slice A1 n1 c1, .slice A2 es.length c2] 33 (0, 0)) ∈ BB := by rw [← hBB]; exact List.mem_cons_of_mem _ List.mem_cons_self
  rw [hBB] at h2 hsub
  clear hBB hgs
  have H9 := Lib.hid h2
  have HS := Lib.hid hsub
  clear h h2 hsub
  obtain ⟨A, c, Ao, co, z0, z1, z2, z3, z4, z5, z6, z7, zf, zl, hk⟩ := H9.out.cells
  obtain ⟨p0, p1, pf0, pf1, pl⟩ := box2 (H9.out.kept hop)
  obtain ⟨q0, q1, q2, qf, ql⟩ := row3 (H9.out.kept hsp)
  go_upto_region 3 with (fail)
  have hC0 := H9.out.num (i := 0) (v := .int .i64 (m.Pc + (n : Int))) (bad' := false) (m' := { m with Pc := m.Pc + (n : Int) }) rfl rfl ⟨hk.len, hk.out, hipc, hk.sp, hk.fp, hk.st, hk.va⟩ (fun _ _ => rfl)
  have hpb : -4611686018427387904 ≤ ({ m with Pc := m.Pc + (n : Int) } : DMachine).Pc ∧ ({ m with Pc := m.Pc + (n : Int) } : DMachine).Pc ≤ 4611686018427387904 := ⟨by show _ ≤ m.Pc + (n : Int); omega, by show m.Pc + (n : Int) ≤ _; omega⟩
  have hs0 : ({ m with Pc := m.Pc + (n : Int) } : DMachine).Sp = spv := hspv
  rw [hm0] at hC0 hpb hs0
  generalize W1.setCell ⟨gc, 0, none⟩ (.int .i64 (m.Pc + (n : Int))) = w0 at hC0 ⊢
  have HB := Lib.hid hpb
  have HSP := Lib.hid hs0
  clear hspv hwp hipc hpb hs0 H9 hk hp hn
  have H0 := Lib.hid hC0
  clear hC0
  clear z0 z1 z2 z3 z4 z5 z6 z7 zf zl p0 p1 pf0 pf1 pl q0 q1 q2 qf ql
  obtain ⟨A, c, Ao, co, z0, z1, z2, z3, z4, z5, z6, z7, zf, zl, hk⟩ := H0.out.cells
  obtain ⟨p0, p1, pf0, pf1, pl⟩ := box2 (H0.out.kept hop)
  obtain ⟨q0, q1, q2, qf, ql⟩ := row3 (H0.out.kept hsp)
  obtain ⟨a, rfl⟩ := Int.eq_ofNat_of_zero_le ha.1
  go_upto_region 44 with (go_at_call 148; (with_reducible refine (pop_s H0.out).mono ?_); rintro e w1 ⟨v1, b1, m1, hv1, rfl, hC1, ho1⟩)
  have H1 := Lib.hid hC1
  clear hC1
  clear z0 z1 z2 z3 z4 z5 z6 z7 zf zl p0 p1 pf0 pf1 pl q0 q1 q2 qf ql
  obtain ⟨A, c, Ao, co, z0, z1, z2, z3, z4, z5, z6, z7, zf, zl, hk⟩ := H1.out.cells
  obtain ⟨p0, p1, pf0, pf1, pl⟩ := box2 (H1.out.kept hop)
  obtain ⟨q0, q1, q2, qf, ql⟩ := row3 (H1.out.kept hsp)
  go_upto_region 45 with (go_at_call 150; (with_reducible refine (drop_s (n := (a : Int) / 16) H1.out (by omega) (by omega)).mono ?_); rintro e w2 ⟨rfl, b2, m2, hC2, ho2⟩)
  have H2 := Lib.hid hC2
  clear hC2
  clear z0 z1 z2 z3 z4 z5 z6 z7 zf zl p0 p1 pf0 pf1 pl q0 q1 q2 qf ql
  obtain ⟨A, c, Ao, co, z0, z1, z2, z3, z4, z5, z6, z7, zf, zl, hk⟩ := H2.out.cells
  obtain ⟨p0, p1, pf0, pf1, pl⟩ := box2 (H2.out.kept hop)
  obtain ⟨q0, q1, q2, qf, ql⟩ := row3 (H2.out.kept hsp)
  go_upto_region 46 with (go_at_call 148; (with_reducible refine (pop_s H2.out).mono ?_); rintro e w3 ⟨v3, b3, m3, hv3, rfl, hC3, ho3⟩; have H3 := Lib.hid hC3; obtain ⟨A, c, Ao, co, z0, z1, z2, z3, z4, z5, z6, z7, zf, zl, hk⟩ := hC3.cells)
  have hC4 := H3.out.num (i := 0) (v := .int .i64 v3) (bad' := b3) (m' := { m3 with Pc := v3 }) rfl rfl ⟨hk.len, hk.out, hv3, hk.sp, hk.fp, hk.st, hk.va⟩ (fun _ _ => rfl)
  generalize w3.setCell ⟨gc, 0, none⟩ (.int .i64 v3) = w4 at hC4 ⊢
  have H4 := Lib.hid hC4
  clear hC4
  clear z0 z1 z2 z3 z4 z5 z6 z7 zf zl p0 p1 pf0 pf1 pl q0 q1 q2 qf ql
  obtain ⟨A, c, Ao, co, z0, z1, z2, z3, z4, z5, z6, z7, zf, zl, hk⟩ := H4.out.cells
  obtain ⟨p0, p1, pf0, pf1, pl⟩ := box2 (H4.out.kept hop)
  obtain ⟨q0, q1, q2, qf, ql⟩ := row3 (H4.out.kept hsp)
  go_upto_region 47 with (go_at_call 150; (with_reducible refine (drop_s (n := (a : Int) % 16) H4.out (by omega) (by omega)).mono ?_); rintro e w5 ⟨rfl, b5, m5, hC5, ho5⟩)
  have H5 := Lib.hid hC5
  clear hC5
  clear z0 z1 z2 z3 z4 z5 z6 z7 zf zl p0 p1 pf0 pf1 pl q0 q1 q2 qf ql
  obtain ⟨A, c, Ao, co, z0, z1, z2, z3, z4, z5, z6, z7, zf, zl, hk⟩ := H5.out.cells
  obtain ⟨p0, p1, pf0, pf1, pl⟩ := box2 (H5.out.kept hop)
  obtain ⟨q0, q1, q2, qf, ql⟩ := row3 (H5.out.kept hsp)
  go_wp2_with (go_at_call 145; (with_reducible refine (push_s H5.out hv1).mono ?_); rintro e w6 ⟨rfl, b6, m6, hC6, ho6⟩)
  exact bodyPost_end (v := .tuple #[]) (by simp [results, Try.results128, go_sem]) rfl ⟨rfl, _, _, (hC6).drop HS.out, ret_opt ho1 ho2 ho3 ho5 ho6⟩
set_option maxRecDepth 100000 in
set_option maxHeartbeats 2000000 in
theorem perform_s17 {B : List (Nat × Obj)} {Y W : World} {N gc : Nat} {m m0 : DMachine} {es : List Int} {A0 A1 A2 : Option Addr} {n0 n1 c0 c1 c2 n : Nat} {arg : Int} (h : StS B Y W N gc false m) (hm0 : ({ m with Pc := m.Pc + (n : Int) } : DMachine) = m0) (hp : -1152921504606846976 ≤ m.Pc ∧ m.Pc ≤ 1152921504606846976) (hn : n ≤ 5) (hN : N ≤ 2000000000000) :
    Calls Try.prog 128 #[.agg #[.slice A0 n0 c0, .slice A1 n1 c1, .slice A2 es.length c2], .pointer (some ⟨gc, 0, none⟩), .agg #[.int .i64 17, .int .i64 arg], .int .i64 n] W (ActS (fun m => performM es m 17 arg) B Y (N + 1) gc false m0) := by
  have h2 := (h.allocB (cs := #[.slice A0 n0 c0, .slice A1 n1 c1, .slice A2 es.length c2]) (t := 33)).allocB (cs := #[.int .i64 17, .int .i64 arg]) (t := 166)
  have hsub : ∀ p ∈ B, p ∈ ((W.alloc (.cells #[.slice A0 n0 c0, .slice A1 n1 c1, .slice A2 es.length c2] 33)).heap.size, Obj.cells #[.int .i64 17, .int .i64 arg] 166 (0, 0)) :: (W.heap.size, Obj.cells #[.slice A0 n0 c0, .slice A1 n1 c1, .slice A2 es.length c2] 33 (0, 0)) :: B := fun p hp => List.mem_cons_of_mem _ (List.mem_cons_of_mem _ hp)
  obtain ⟨spv, hspv⟩ : ∃ v, m.Sp = v := ⟨_, rfl⟩
  have hwp : wrap64 (m.Pc + (n : Int)) = m.Pc + (n : Int) := wrap64_small (by omega) (by omega)
  have hipc : I64 (m.Pc + (n : Int)) := ⟨by omega, by omega⟩
  go_enter Try.func128, Try.ntmps128
  go_upto_region 1 with (fail)
  rw [World.size_alloc] at h2 hsub
  generalize (W.alloc (.cells #[.slice A0 n0 c0, .slice A1 n1 c1, .slice A2 es.length c2] 33)).alloc (.cells #[.int .i64 17, .int .i64 arg] 166) = W1 at h2 ⊢
  obtain ⟨gs, hgs⟩ : ∃ g, W.heap.size = g := ⟨_, rfl⟩
  rw [hgs] at h2 hsub ⊢
  obtain ⟨BB, hBB⟩ : ∃ X, (gs + 1, Obj.cells #[.int .i64 17, .int .i64 arg] 166 (0, 0)) :: (gs, Obj.cells #[.slice A0 n0 c0, .slice A1 n1 c1, .slice A2 es.length c2] 33 (0, 0)) :: B = X := ⟨_, rfl⟩
  have hop : (gs + 1, Obj.cells #[.int .i64 17, .int .i64 arg] 166 (0, 0)) ∈ BB := by rw [← hBB]; exact List.mem_cons_self
  have hsp : (gs, Obj.cells #[.slice A0 n0 c0, .slice A1 n1 c1, .slice A2 es.length c2] 33 (0, 0)) ∈ BB := by rw [← hBB]; exact List.mem_cons_of_mem _ List.mem_cons_self
  rw [hBB] at h2 hsub
  clear hBB hgs
  have H9 := Lib.hid h2
  have HS := Lib.hid hsub
  clear h h2 hsub
  obtain ⟨A, c, Ao, co, z0, z1, z2, z3, z4, z5, z6, z7, zf, zl, hk⟩ := H9.out.cells
  obtain ⟨p0, p1, pf0, pf1, pl⟩ := box2 (H9.out.kept hop)
  obtain ⟨q0, q1, q2, qf, ql⟩ := row3 (H9.out.kept hsp)
  go_upto_region 3 with (fail)
  have hC0 := H9.out.num (i := 0) (v := .int .i64 (m.Pc + (n : Int))) (bad' := false) (m' := { m with Pc := m.Pc + (n : Int) }) rfl rfl ⟨hk.len, hk.out, hipc, hk.sp, hk.fp, hk.st, hk.va⟩ (fun _ _ => rfl)
  have hpb : -4611686018427387904 ≤ ({ m with Pc := m.Pc + (n : Int) } : DMachine).Pc ∧ ({ m with Pc := m.Pc + (n : Int) } : DMachine).Pc ≤ 4611686018427387904 := ⟨by show _ ≤ m.Pc + (n : Int); omega, by show m.Pc + (n : Int) ≤ _; omega⟩
  have hs0 : ({ m with Pc := m.Pc + (n : Int) } : DMachine).Sp = spv := hspv
  rw [hm0] at hC0 hpb hs0
  generalize W1.setCell ⟨gc, 0, none⟩ (.int .i64 (m.Pc + (n : Int))) = w0 at hC0 ⊢
  have HB := Lib.hid hpb
  have HSP := Lib.hid hs0
  clear hspv hwp hipc hpb hs0 H9 hk hp hn
  have H0 := Lib.hid hC0
  clear hC0
  clear z0 z1 z2 z3 z4 z5 z6 z7 zf zl p0 p1 pf0 pf1 pl q0 q1 q2 qf ql
  obtain ⟨A, c, Ao, co, z0, z1, z2, z3, z4, z5, z6, z7, zf, zl, hk⟩ := H0.out.cells
  obtain ⟨p0, p1, pf0, pf1, pl⟩ := box2 (H0.out.kept hop)
  obtain ⟨q0, q1, q2, qf, ql⟩ := row3 (H0.out.kept hsp)
  have hk0 := hk
  go_upto_region 49 with (fail)
  have hlo : m0.Out.length ≤ N := hk0.out
  refine region_T (fun w' => w'.cell? ⟨gc, 4, none⟩ = some (.slice Ao m0.Out.length co)) 13 (by kernel_rfl) (drew_keeps z4) (fun hH => ?_)
  have hX := H0.out.gro ((Gro.refl w0).drew)
  generalize w0.drew = wx at hX hH ⊢
  have HX := Lib.hid hX
  clear hX
  clear z0 z1 z2 z3 z4 z5 z6 z7 zf zl p0 p1 pf0 pf1 pl q0 q1 q2 qf ql
  obtain ⟨A, c, Ao', co', z0, z1, z2, z3, _, z5, z6, z7, zf, zl, hk⟩ := HX.out.cells
  have z4 := hH
  refine AnyT.take (i := 0) (cs := [10, 11, 12, 13]) rfl (by kernel_rfl) (by kernel_rfl) (by kernel_rfl) (by kernel_rfl) rfl (by kernel_rfl) (fun _ _ _ h => h) hH (by rfl) (by intro w hSw; (try dsimp only at hSw); go_simp; (try with_reducible rfl)) ?_
  try simp only [Act.put, List.setIfInBounds_toArray, List.set_cons_zero, List.set_cons_succ]
  refine AnyT.take (i := 1) (cs := [2, 3, 4, 5, 9, 10, 11, 12, 13]) rfl (by kernel_rfl) (by kernel_rfl) (by kernel_rfl) (by kernel_rfl) rfl (by kernel_rfl) (fun _ _ _ h => h) hH (by rfl) (by intro w hSw; (try dsimp only at hSw); go_simp; (try with_reducible rfl)) ?_
  try simp only [Act.put, List.setIfInBounds_toArray, List.set_cons_zero, List.set_cons_succ]
  refine AnyT.take (i := 2) (cs := [3, 4, 5, 9, 10, 11, 12, 13]) rfl (by kernel_rfl) (by kernel_rfl) (by kernel_rfl) (by kernel_rfl) rfl (by kernel_rfl) (fun _ _ _ h => h) hH (by rfl) (by intro w hSw; (try dsimp only at hSw); go_simp; (try with_reducible rfl)) ?_
  try simp only [Act.put, List.setIfInBounds_toArray, List.set_cons_zero, List.set_cons_succ]
  refine AnyT.take (i := 3) (cs := [4, 5, 9, 10, 11, 12, 13]) rfl (by kernel_rfl) (by kernel_rfl) (by kernel_rfl) (by kernel_rfl) rfl (by kernel_rfl) (fun _ _ _ h => h) hH (by rfl) (by intro w hSw; (try dsimp only at hSw); go_simp; (try with_reducible rfl)) ?_
  try simp only [Act.put, List.setIfInBounds_toArray, List.set_cons_zero, List.set_cons_succ]
  refine AnyT.take (i := 4) (cs := [5, 9, 10, 11, 12, 13]) rfl (by kernel_rfl) (by kernel_rfl) (by kernel_rfl) (by kernel_rfl) rfl (by kernel_rfl) (fun _ _ _ h => h) hH (by rfl) (by intro w hSw; (try dsimp only at hSw); go_simp; (try with_reducible rfl)) ?_
  try simp only [Act.put, List.setIfInBounds_toArray, List.set_cons_zero, List.set_cons_succ]
  refine AnyT.take (i := 5) (cs := [9, 10, 11, 12, 13]) rfl (by kernel_rfl) (by kernel_rfl) (by kernel_rfl) (by kernel_rfl) rfl (by kernel_rfl) (fun _ _ _ h => h) hH (by rfl) (by intro w hSw; (try dsimp only at hSw); go_simp; (try with_reducible rfl)) ?_
  try simp only [Act.put, List.setIfInBounds_toArray, List.set_cons_zero, List.set_cons_succ]
  refine AnyT.take (i := 6) (cs := [7, 8, 9, 10, 11, 12, 13]) rfl (by kernel_rfl) (by kernel_rfl) (by kernel_rfl) (by kernel_rfl) rfl (by kernel_rfl) (fun _ _ _ h => h) hH (by rfl) (by intro w hSw; (try dsimp only at hSw); go_simp; (try with_reducible rfl)) ?_
  try simp only [Act.put, List.setIfInBounds_toArray, List.set_cons_zero, List.set_cons_succ]
  refine AnyT.some1 (i := 7) (by kernel_rfl) rfl (fun K hK => ?_)
  go_simp
  go_at_call 148
  refine (pop_s4 HX.out).mono ?_
  rintro e w2 ⟨⟨v1, b1, m1, hv1, rfl, hC1, ho1⟩, hK4⟩
  have hz4 := hK4 4 _ (by omega) (by omega) z4
  clear hK4
  refine hK.out _ _ hz4 ?_
  clear hK
  try simp only [Act.put, List.setIfInBounds_toArray, List.set_cons_zero, List.set_cons_succ]
  refine AnyT.some1 (i := 8) (by kernel_rfl) rfl (fun K hK => ?_)
  go_simp
  have hC3 := hC1.allocB (cs := #[.int .i64 v1]) (t := 3)
  have hz5 := alloc_keeps hz4 (.cells #[.int .i64 v1] 3)
  have en := heap_alloc_new w2 (.cells #[.int .i64 v1] 3)
  refine hK.out _ _ hz5 ?_
  clear hK
  try simp only [Act.put, List.setIfInBounds_toArray, List.set_cons_zero, List.set_cons_succ]
  obtain ⟨gn, hgn⟩ : ∃ g, w2.heap.size = g := ⟨_, rfl⟩
  rw [hgn] at hC3 en ⊢
  generalize w2.alloc (.cells #[.int .i64 v1] 3) = w3 at hC3 hz5 en ⊢
  obtain ⟨A9, c9, S9, Ao9, co9, So9, hc9⟩ := hC3
  obtain ⟨_, _, _, _, x4, _, _, _, _, _⟩ := row8 hc9.core
  have x4 := x4.symm.trans hz5
  injection x4 with x4
  injection x4 with e1 e2 e3
  subst e1 e3
  have hl1 : m1.Out.length = m0.Out.length := e2
  have hHo := hc9.out
  rw [hl1] at hHo
  refine AnyT.some1 (i := 9) (by kernel_rfl) rfl (fun K hK => ?_)
  refine step_append_hasf (W1 := w3) (L := m0.Out.length + 1) rfl (.tmp 257) (.tmp 260) elInt flat_int hHo (ec := [.int .i64 v1]) (y := v1) (B := 0) ⟨rfl, hv1.1, hv1.2⟩ rfl rfl rfl (by intro j u hu; have hu2 := cell_of_row w3 gn j _ _ (0, 0) en; rw [hu2]; simpa using hu) rfl (by omega) (by omega) ?_
  intro A7 c7 W7 S7 hon hH7 hS7
  have hz7 := (hon.cell (Array.getElem?_eq_some_iff.1 hc9.core).1 hc9.cs.2 4).trans hz5
  have x7 := (hon.block gc (Array.getElem?_eq_some_iff.1 hc9.core).1 hc9.cs.2).trans hc9.core
  obtain ⟨_, _, _, _, _, _, _, _, zf7, zl7⟩ := row8 x7
  refine hK.out _ _ hz7 ?_
  clear hK
  try simp only [Act.put, List.setIfInBounds_toArray, List.set_cons_zero, List.set_cons_succ]
  refine AnyT.take (i := 10) (cs := [11, 12, 13]) rfl (by kernel_rfl) (by kernel_rfl) (by kernel_rfl) (by kernel_rfl) rfl (by kernel_rfl) (fun _ _ _ h => h) hz7 (by rfl) (by intro w hSw; (try dsimp only at hSw); go_simp; (try with_reducible rfl)) ?_
  try simp only [Act.put, List.setIfInBounds_toArray, List.set_cons_zero, List.set_cons_succ]
  refine AnyT.take (i := 11) (cs := [12, 13]) rfl (by kernel_rfl) (by kernel_rfl) (by kernel_rfl) (by kernel_rfl) rfl (by kernel_rfl) (fun _ _ _ h => h) hz7 (by rfl) (by intro w hSw; (try dsimp only at hSw); go_simp; (try with_reducible rfl)) ?_
  try simp only [Act.put, List.setIfInBounds_toArray, List.set_cons_zero, List.set_cons_succ]
  refine AnyT.take (i := 12) (cs := [13]) rfl (by kernel_rfl) (by kernel_rfl) (by kernel_rfl) (by kernel_rfl) rfl (by kernel_rfl) (fun _ _ _ h => h) hz7 (by rfl) (by intro w hSw; (try dsimp only at hSw); go_simp; (try with_reducible rfl)) ?_
  try simp only [Act.put, List.setIfInBounds_toArray, List.set_cons_zero, List.set_cons_succ]
  refine AnyT.last (by kernel_rfl) rfl (by kernel_rfl) (fun K hK => ?_)
  go_simp
  refine hK.out _ _ ?_
  clear hK
  try simp only [Act.put, List.setIfInBounds_toArray, List.set_cons_zero, List.set_cons_succ]
  rw [← hl1] at hH7
  have hc10 := hc9.app hon hH7 hS7
  rw [hl1] at hc10
  have hC5 : StS BB Y (W7.setCell ⟨gc, 4, none⟩ (.slice A7 (m0.Out.length + 1) c7)) (N + 1) gc b1 { m1 with Out := m1.Out ++ [v1] } := StS.drop ⟨_, _, _, _, _, _, hc10⟩ (fun p hp => List.mem_cons_of_mem _ hp)
  go_wp2_with (fail)
  exact bodyPost_end (v := .tuple #[]) (by simp [results, Try.results128, go_sem]) rfl ⟨rfl, _, _, (hC5).drop HS.out, out_opt ho1⟩
theorem perform_s {B : List (Nat × Obj)} {Y W : World} {N gc : Nat} {m : DMachine} {es : List Int} {A0 A1 A2 : Option Addr} {n0 n1 c0 c1 c2 n : Nat} {code arg : Int} (h : StS B Y W N gc false m) (he : (intT.sl 3).R Y Y.heap.size [.slice A2 es.length c2] es) (hes : es.length ≤ 9223372036854775807) (hN : N ≤ 2000000000000)
    (hp : -1152921504606846976 ≤ m.Pc ∧ m.Pc ≤ 1152921504606846976) (hn : n ≤ 5) (hc : 0 ≤ code ∧ code ≤ 17) (hb : ArgOk code arg) (hI : I64 arg) :
    Calls Try.prog 128 #[.agg #[.slice A0 n0 c0, .slice A1 n1 c1, .slice A2 es.length c2], .pointer (some ⟨gc, 0, none⟩), .agg #[.int .i64 code, .int .i64 arg], .int .i64 n] W (ActS (fun m => performM es m code arg) B Y (N + 1) gc false { m with Pc := m.Pc + (n : Int) }) := by
  have up : ∀ r W', ActS (fun m => performM es m code arg) B Y N gc false { m with Pc := m.Pc + (n : Int) } r W' → ActS (fun m => performM es m code arg) B Y (N + 1) gc false { m with Pc := m.Pc + (n : Int) } r W' := fun _ _ h => h.up
  have hk : code = 0 ∨ code = 1 ∨ code = 2 ∨ code = 3 ∨ code = 4 ∨ code = 5 ∨ code = 6 ∨ code = 7 ∨ code = 8 ∨ code = 9 ∨ code = 10 ∨ code = 11 ∨ code = 12 ∨ code = 13 ∨ code = 14 ∨ code = 15 ∨ code = 16 ∨ code = 17 := by omega
  rcases hk with rfl | rfl | rfl | rfl | rfl | rfl | rfl | rfl | rfl | rfl | rfl | rfl | rfl | rfl | rfl | rfl | rfl | rfl
  · exact (perform_s0 h rfl hp hn hI).mono up
  · exact (perform_s1 h rfl hp hn (hb.1 (by omega))).mono up
  · exact (perform_s2 h rfl hp hn (hb.1 (by omega))).mono up
  · exact (perform_s3 h rfl hp hn (hb.1 (by omega))).mono up
  · exact (perform_s4 h rfl hp hn (hb.1 (by omega))).mono up
  · exact (perform_s5 h rfl hp hn).mono up
  · exact (perform_s6 h rfl hp hn).mono up
  · exact (perform_s7 h rfl hp hn).mono up
  · exact (perform_s8 h rfl hp hn).mono up
  · exact (perform_s9 h rfl hp hn).mono up
  · exact (perform_s10 h rfl hp hn (hb.1 (by omega))).mono up
  · exact (perform_s11 h rfl hp hn (hb.1 (by omega))).mono up
  · exact (perform_s12 h rfl hp hn he hes (hb.2.2 (by omega))).mono up
  · exact (perform_s13 h rfl hp hn (hb.2.2 (by omega))).mono up
  · exact (perform_s14 h rfl hp hn (hb.2.2 (by omega))).mono up
  · exact (perform_s15 h rfl hp hn (hb.2.2 (by omega))).mono up
  · exact (perform_s16 h rfl hp hn (hb.2.1 rfl)).mono up
  · exact perform_s17 h rfl hp hn hN
end Go.Proofs.Ytbhobjepjaeffaa
namespace Go.Proofs.Ytbhobjepjaeffaa
open Go.RowKit
/-- a core over a copied machine -/
theorem StI.make {B : List (Nat × Obj)} {w W1 W2 : World} {N : Nat} {m m' : DMachine} {A : Option Addr} {c : Nat} {Ao : Option Addr} {co : Nat} {row : Array Value} (hrow : row = #[.int .i64 m'.Pc, .int .i64 m'.Sp, .int .i64 m'.Fp, .slice A m.Stack.length c, .slice Ao m.Out.length co, .int .i64 m'.State, .int .i64 m'.Value])
    (hF : Fresh tMachine W1 W2 [.int .i64 m.Pc, .int .i64 m.Sp, .int .i64 m.Fp, .slice A m.Stack.length c, .slice Ao m.Out.length co, .int .i64 m.State, .int .i64 m.Value] m)
    (hg1 : Gro w W1) (hg2 : Gro W1 W2) (hB : ∀ p ∈ B, W1.heap[p.1]? = some p.2) (hk : MOk N m') (hs : m'.Stack = m.Stack) (ho : m'.Out = m.Out) :
    StI B w ((W2.alloc (.cells row 80)).alloc (.cells #[.pointer (some ⟨W2.heap.size, 0, none⟩), .bool false] 174)) N (W2.heap.size + 1) W2.heap.size false m' := by
  obtain ⟨S9, hO, hN, hL⟩ := hF
  have hlt := Ty.ltO _ hO
  obtain ⟨A', c', S, Ao', co', So, hcs, rfl, _, _, _, h3, h4, _, _⟩ := tMachine_O hO
  injection hcs with _ hcs
  injection hcs with _ hcs
  injection hcs with _ hcs
  injection hcs with e3 hcs
  injection hcs with e4 _
  injection e3 with a1 a2 a3
  injection e4 with b1 b2 b3
  subst a1 a3 b1 b3
  rw [List.nodup_append] at hN
  obtain ⟨n1, n2, n3⟩ := hN
  have hgA : Gro W2 ((W2.alloc (.cells row 80)).alloc (.cells #[.pointer (some ⟨W2.heap.size, 0, none⟩), .bool false] 174)) := ((Gro.refl _).alloc _).alloc _
  have hw1 := hg1.size
  have hw2 := hg2.size
  refine ⟨A, c, S, Ao, co, So, ⟨?_, ?_, ?_, ?_, fun b hb hm => n3 b hb b hm rfl, by omega, ?_⟩, hk, (hg1.trans hg2).trans hgA, by omega, by omega, fun b hb => ?_, fun b hb => ?_, fun p hp => ?_⟩
  · have h := heap_alloc_new (W2.alloc (.cells row 80)) (.cells #[.pointer (some ⟨W2.heap.size, 0, none⟩), .bool false] 174)
    rw [World.size_alloc] at h
    exact h
  · rw [hs, ho, ← hrow]
    exact grow_blk (heap_alloc_new W2 _) ((Gro.refl _).alloc _)
  · rw [hs]
    exact Has.gro ⟨h3, n1⟩ hgA
  · rw [ho]
    exact Has.gro ⟨h4, n2⟩ hgA
  · refine ⟨fun hm => ?_, fun hm => ?_, fun hm => ?_, fun hm => ?_⟩
    · have := hlt _ (List.mem_append_left _ hm); omega
    · have := hlt _ (List.mem_append_right _ hm); omega
    · have := hlt _ (List.mem_append_left _ hm); omega
    · have := hlt _ (List.mem_append_right _ hm); omega
  · have := hL b (List.mem_append_left _ hb); omega
  · have := hL b (List.mem_append_right _ hb); omega
  · have h1 := hB p hp
    have hl := (Array.getElem?_eq_some_iff.1 h1).1
    refine ⟨grow_blk (grow_blk h1 hg2) hgA, by omega, by omega, fun hm => ?_, fun hm => ?_⟩
    · have := hL _ (List.mem_append_left _ hm); omega
    · have := hL _ (List.mem_append_right _ hm); omega
/-- the machine of a core, when the walk is done with it -/
theorem StI.fresh {B : List (Nat × Obj)} {Y W : World} {N gc gm : Nat} {bad : Bool} {m : DMachine} (h : StI B Y W N gc gm bad m) : ∃ A c Ao co, W.heap[gm]? = some (.cells #[.int .i64 m.Pc, .int .i64 m.Sp, .int .i64 m.Fp, .slice A m.Stack.length c, .slice Ao m.Out.length co, .int .i64 m.State, .int .i64 m.Value] 80 (0, 0)) ∧
    ∃ S, Has tMachine W [.int .i64 m.Pc, .int .i64 m.Sp, .int .i64 m.Fp, .slice A m.Stack.length c, .slice Ao m.Out.length co, .int .i64 m.State, .int .i64 m.Value] m S ∧ (∀ b ∈ S, Y.heap.size ≤ b) ∧ ∀ p ∈ B, p.1 ∉ S := by
  obtain ⟨A, c, S, Ao, co, So, h⟩ := h
  refine ⟨A, c, Ao, co, h.cpu.mach, S ++ So, ⟨tMachine_mkOd h.ok.pc h.ok.sp h.ok.fp h.cpu.stack.1 h.cpu.out.1 h.ok.st h.ok.va, List.nodup_append.2 ⟨h.cpu.stack.2, h.cpu.out.2, fun a ha b hb he => h.cpu.dis a ha (he ▸ hb)⟩⟩, fun b hb => ?_, fun p hp hm => ?_⟩
  · rcases List.mem_append.1 hb with hb | hb
    · exact h.ls b hb
    · exact h.lo b hb
  · obtain ⟨_, _, _, h4, h5⟩ := h.kb p hp
    rcases List.mem_append.1 hm with hb | hb
    · exact h4 hb
    · exact h5 hb
theorem StI.all {B : List (Nat × Obj)} {Y W : World} {N gc gm : Nat} {bad : Bool} {m : DMachine} (h : StI B Y W N gc gm bad m) : ∃ A c Ao co S,
    W.cell? ⟨gc, 0, none⟩ = some (.pointer (some ⟨gm, 0, none⟩)) ∧ W.cell? ⟨gc, 1, none⟩ = some (.bool bad) ∧ (∀ j, W.frozen? ⟨gc, j, none⟩ = false) ∧ gc < W.heap.size ∧
    W.heap[gm]? = some (.cells #[.int .i64 m.Pc, .int .i64 m.Sp, .int .i64 m.Fp, .slice A m.Stack.length c, .slice Ao m.Out.length co, .int .i64 m.State, .int .i64 m.Value] 80 (0, 0)) ∧ MOk N m ∧
    Has tMachine W [.int .i64 m.Pc, .int .i64 m.Sp, .int .i64 m.Fp, .slice A m.Stack.length c, .slice Ao m.Out.length co, .int .i64 m.State, .int .i64 m.Value] m S ∧ (∀ b ∈ S, Y.heap.size ≤ b) ∧ ∀ p ∈ B, p.1 ∉ S := by
  obtain ⟨_, _, _, _, y0, y1, yf, yl, _, _, _, _, _, _, _, _, _, hk⟩ := h.cells
  obtain ⟨A, c, Ao, co, e, S, h1, h2, h3⟩ := h.fresh
  exact ⟨A, c, Ao, co, S, y0, y1, yf, yl, e, hk, h1, h2, h3⟩
/-- what a step answers: a machine of its own, or the given one, stopped -/
def RetStep (m x : DMachine) (A0 : Option Addr) (c0 : Nat) (A1 : Option Addr) (c1 : Nat) (N : Nat) (w : World) (r : Ending) (w' : World) : Prop :=
  ∃ B0 d0 B1 d1, r = .returned (.agg #[.int .i64 x.Pc, .int .i64 x.Sp, .int .i64 x.Fp, .slice B0 x.Stack.length d0, .slice B1 x.Out.length d1, .int .i64 x.State, .int .i64 x.Value]) ∧ Gro w w' ∧ MOk N x ∧
    (Fresh tMachine w w' [.int .i64 x.Pc, .int .i64 x.Sp, .int .i64 x.Fp, .slice B0 x.Stack.length d0, .slice B1 x.Out.length d1, .int .i64 x.State, .int .i64 x.Value] x ∨ (x = { m with State := 2 } ∧ B0 = A0 ∧ d0 = c0 ∧ B1 = A1 ∧ d1 = c1))
theorem stepM_none {s : DSpace} {m : DMachine} (h : locGo s.Images s.Bases m.Pc 0 = (-1, -1)) : stepM s m = { m with State := 2 } := by
  unfold stepM loc
  rw [h]
  rfl
theorem stepM_at {s : DSpace} {m : DMachine} {j : Nat} {y : DImage} {b : Int} (h : locGo s.Images s.Bases m.Pc 0 = ((j : Int), m.Pc - b)) (hy : s.Images[j]? = some y) :
    stepM s m = if (decOp y.Code (m.Pc - b)).ok = true then (((performM s.Entries { m with Pc := m.Pc + ((decOp y.Code (m.Pc - b)).n : Int) } (decOp y.Code (m.Pc - b)).code (decOp y.Code (m.Pc - b)).arg).bind endM).getD { m with State := 2 }) else { m with State := 2 } := by
  unfold stepM loc
  rw [h]
  simp only
  rw [if_neg (by omega), Int.toNat_natCast, hy]
theorem MOk.stop {N : Nat} {m : DMachine} (h : MOk N m) : MOk (N + 1) { m with State := 2 } :=
  have i2 : I64 2 := ⟨by decide, by decide⟩
  ⟨h.len, by have := h.out; show m.Out.length ≤ _; omega, h.pc, h.sp, h.fp, i2, h.va⟩
theorem alloc4 (w : World) (ca cb cc cd : Array Value) (ta tb tc td : TypeId) : ((((w.alloc (.cells ca ta)).alloc (.cells cb tb)).alloc (.cells cc tc)).alloc (.cells cd td)).heap[w.heap.size]? = some (.cells ca ta (0, 0)) ∧ ((((w.alloc (.cells ca ta)).alloc (.cells cb tb)).alloc (.cells cc tc)).alloc (.cells cd td)).heap[w.heap.size + 1]? = some (.cells cb tb (0, 0)) ∧
    ((((w.alloc (.cells ca ta)).alloc (.cells cb tb)).alloc (.cells cc tc)).alloc (.cells cd td)).heap[w.heap.size + 1 + 1]? = some (.cells cc tc (0, 0)) ∧ ((((w.alloc (.cells ca ta)).alloc (.cells cb tb)).alloc (.cells cc tc)).alloc (.cells cd td)).heap[w.heap.size + 1 + 1 + 1]? = some (.cells cd td (0, 0)) := by
  refine ⟨grow_blk (heap_alloc_new w _) (by (repeat (first | with_reducible exact Gro.refl _ | with_reducible exact Gro.refl_drew _ _ _ | with_reducible exact Gro.refl_drewN _ _ _ _ | assumption | with_reducible apply Gro.more | with_reducible apply Gro.alloc | with_reducible apply Gro.drew | with_reducible apply Gro.drewN)); done), ?_, ?_, ?_⟩
  · have h := heap_alloc_new (w.alloc (.cells ca ta)) (.cells cb tb)
    rw [World.size_alloc] at h
    exact grow_blk h (by (repeat (first | with_reducible exact Gro.refl _ | with_reducible exact Gro.refl_drew _ _ _ | with_reducible exact Gro.refl_drewN _ _ _ _ | assumption | with_reducible apply Gro.more | with_reducible apply Gro.alloc | with_reducible apply Gro.drew | with_reducible apply Gro.drewN)); done)
  · have h := heap_alloc_new ((w.alloc (.cells ca ta)).alloc (.cells cb tb)) (.cells cc tc)
    rw [World.size_alloc, World.size_alloc] at h
    exact grow_blk h (by (repeat (first | with_reducible exact Gro.refl _ | with_reducible exact Gro.refl_drew _ _ _ | with_reducible exact Gro.refl_drewN _ _ _ _ | assumption | with_reducible apply Gro.more | with_reducible apply Gro.alloc | with_reducible apply Gro.drew | with_reducible apply Gro.drewN)); done)
  · have h := heap_alloc_new (((w.alloc (.cells ca ta)).alloc (.cells cb tb)).alloc (.cells cc tc)) (.cells cd td)
    rw [World.size_alloc, World.size_alloc, World.size_alloc] at h
    exact h
set_option maxRecDepth 100000 in
set_option maxHeartbeats 3000000 in
theorem step_i {s : DSpace} {m : DMachine} {N : Nat} {w : World} {A0 A1 A2 A3 A4 : Option Addr} {c0 c1 c2 c3 c4 : Nat} (h0 : (tImage.sl 96).R w w.heap.size [.slice A0 s.Images.length c0] s.Images) (h1 : (intT.sl 3).R w w.heap.size [.slice A1 s.Bases.length c1] s.Bases)
    (h2 : (intT.sl 3).R w w.heap.size [.slice A2 s.Entries.length c2] s.Entries) (h3 : (intT.sl 3).R w w.heap.size [.slice A3 m.Stack.length c3] m.Stack) (h4 : (intT.sl 3).R w w.heap.size [.slice A4 m.Out.length c4] m.Out)
    (hl : s.Images.length = s.Bases.length) (hst : ∀ x ∈ s.Images, x.Code.size ≤ 1099511627776) (hbs : ∀ b ∈ s.Bases, btw b 1 1000000 = true) (hk : MOk N m) (hN : N ≤ 1099511620000) (hm0 : m.State = 0) :
    Calls Try.prog 109 #[.agg #[.slice A0 s.Images.length c0, .slice A1 s.Bases.length c1, .slice A2 s.Entries.length c2], .agg #[.int .i64 m.Pc, .int .i64 m.Sp, .int .i64 m.Fp, .slice A3 m.Stack.length c3, .slice A4 m.Out.length c4, .int .i64 m.State, .int .i64 m.Value]] w (RetStep m (stepM s m) A3 c3 A4 c4 (N + 1) w) := by
  obtain ⟨_, _, hx', hxl, hcm⟩ := sl_at h0
  injection hx' with e1 e2 e3
  subst e1 e3
  clear e2
  obtain ⟨_, _, hx', hel, hem⟩ := sl_at h2
  injection hx' with e1 e2 e3
  subst e1 e3
  clear e2
  have hG0 : Gro w ((((w.alloc (.cells #[.slice A0 s.Images.length c0, .slice A1 s.Bases.length c1, .slice A2 s.Entries.length c2] 33)).alloc (.cells #[.int .i64 m.Pc, .int .i64 m.Sp, .int .i64 m.Fp, .slice A3 m.Stack.length c3, .slice A4 m.Out.length c4, .int .i64 0, .int .i64 m.Value] 80)).alloc (.cells #[.int .i64 0, .int .i64 0, .int .i64 0, .slice none 0 0, .slice none 0 0, .int .i64 0, .int .i64 0] 80)).alloc (.cells #[.int .i64 m.Pc, .int .i64 m.Sp, .int .i64 m.Fp, .slice A3 m.Stack.length c3, .slice A4 m.Out.length c4, .int .i64 2, .int .i64 m.Value] 80)) := (by repeat (first | with_reducible exact Gro.refl _ | with_reducible exact Gro.refl_drew _ _ _ | with_reducible exact Gro.refl_drewN _ _ _ _ | assumption | with_reducible apply Gro.more | with_reducible apply Gro.alloc | with_reducible apply Gro.drew | with_reducible apply Gro.drewN))
  obtain ⟨eb0, eb1, eb2, eb3⟩ := alloc4 w #[.slice A0 s.Images.length c0, .slice A1 s.Bases.length c1, .slice A2 s.Entries.length c2] #[.int .i64 m.Pc, .int .i64 m.Sp, .int .i64 m.Fp, .slice A3 m.Stack.length c3, .slice A4 m.Out.length c4, .int .i64 0, .int .i64 m.Value] #[.int .i64 0, .int .i64 0, .int .i64 0, .slice none 0 0, .slice none 0 0, .int .i64 0, .int .i64 0] #[.int .i64 m.Pc, .int .i64 m.Sp, .int .i64 m.Fp, .slice A3 m.Stack.length c3, .slice A4 m.Out.length c4, .int .i64 2, .int .i64 m.Value] 33 80 80 80
  have k0 := Ty.up _ h0 hG0
  have k1 := Ty.up _ h1 hG0
  have k2 := Ty.up _ h2 hG0
  have k3 := Ty.up _ h3 hG0
  have k4 := Ty.up _ h4 hG0
  have HLL := Lib.hid hl
  have HST := Lib.hid hst
  have HBS := Lib.hid hbs
  have HKS := Lib.hid hk.stop
  have hpc := hk.pc
  have i1 : I64 1 := ⟨by decide, by decide⟩
  clear hl
  obtain ⟨g, hg⟩ : ∃ g, w.heap.size = g := ⟨_, rfl⟩
  go_enter Try.func109, Try.ntmps109
  go_upto_region 5 with (fail)
  rw [hg] at eb0 eb1 eb2 eb3
  generalize ((((w.alloc (.cells #[.slice A0 s.Images.length c0, .slice A1 s.Bases.length c1, .slice A2 s.Entries.length c2] 33)).alloc (.cells #[.int .i64 m.Pc, .int .i64 m.Sp, .int .i64 m.Fp, .slice A3 m.Stack.length c3, .slice A4 m.Out.length c4, .int .i64 0, .int .i64 m.Value] 80)).alloc (.cells #[.int .i64 0, .int .i64 0, .int .i64 0, .slice none 0 0, .slice none 0 0, .int .i64 0, .int .i64 0] 80)).alloc (.cells #[.int .i64 m.Pc, .int .i64 m.Sp, .int .i64 m.Fp, .slice A3 m.Stack.length c3, .slice A4 m.Out.length c4, .int .i64 2, .int .i64 m.Value] 80)) = Y at hG0 eb0 eb1 eb2 eb3 k0 k1 k2 k3 k4 ⊢
  have hgY := hG0.size
  clear h0 h1 h2 h3 h4
  obtain ⟨a0, a1, a2, af, al⟩ := row3 eb0
  obtain ⟨b0', b1', b2', b3', b4', b5', b6', bf, bl⟩ := row7 eb1
  obtain ⟨z0, z1, z2, z3, z4, z5, z6, zf, zl⟩ := row7 eb2
  obtain ⟨x0, x1, x2, x3, x4, x5, x6, xf, xl⟩ := row7 eb3
  rcases locGo_res s.Images s.Bases m.Pc 0 with h | ⟨j, y, b, hj, hb, h, hb1, hb2⟩
  · have HL := Lib.hid h
    have HQ := Lib.hid (stepM_none h)
    clear h hst hbs hk
    go_wp2_with (go_at_call 130; (with_reducible refine (locate_i (imgs := s.Images) (bases := s.Bases) (es := s.Entries) (e := m.Pc) (Ty.up _ k0 (by repeat (first | with_reducible exact Gro.refl _ | with_reducible exact Gro.refl_drew _ _ _ | with_reducible exact Gro.refl_drewN _ _ _ _ | assumption | with_reducible apply Gro.more | with_reducible apply Gro.alloc | with_reducible apply Gro.drew | with_reducible apply Gro.drewN))) (Ty.up _ k1 (by repeat (first | with_reducible exact Gro.refl _ | with_reducible exact Gro.refl_drew _ _ _ | with_reducible exact Gro.refl_drewN _ _ _ _ | assumption | with_reducible apply Gro.more | with_reducible apply Gro.alloc | with_reducible apply Gro.drew | with_reducible apply Gro.drewN))) HLL.out HST.out HBS.out hpc).mono ?_); rw [HL.out]; rintro e w1 ⟨rfl, os1, d1, rfl⟩)
    rw [HQ.out]
    have h9 := set7 eb2 (.int .i64 m.Pc) (.int .i64 m.Sp) (.int .i64 m.Fp) (.slice A3 m.Stack.length c3) (.slice A4 m.Out.length c4) (.int .i64 2) (.int .i64 m.Value)
    generalize (((((((Y.setCell ⟨g + 1 + 1, 0, none⟩ (.int .i64 m.Pc)).setCell ⟨g + 1 + 1, 1, none⟩ (.int .i64 m.Sp)).setCell ⟨g + 1 + 1, 2, none⟩ (.int .i64 m.Fp)).setCell ⟨g + 1 + 1, 3, none⟩ (.slice A3 m.Stack.length c3)).setCell ⟨g + 1 + 1, 4, none⟩ (.slice A4 m.Out.length c4)).setCell ⟨g + 1 + 1, 5, none⟩ (.int .i64 2)).setCell ⟨g + 1 + 1, 6, none⟩ (.int .i64 m.Value)) = X at h9 ⊢
    have hGX := h9.2.gro hG0 (fun b hb' => by simp at hb'; omega)
    obtain ⟨r0, r1, r2, r3, r4, r5, r6, _, _⟩ := row7 (grow_blk h9.1 (Gro.of X os1 d1))
    exact bodyPost_ret (v := .agg #[.int .i64 m.Pc, .int .i64 m.Sp, .int .i64 m.Fp, .slice A3 m.Stack.length c3, .slice A4 m.Out.length c4, .int .i64 2, .int .i64 m.Value]) (by simp [results, Try.results109, go_sem, r0, r1, r2, r3, r4, r5, r6]) rfl ⟨A3, c3, A4, c4, rfl, hGX.more os1 d1, HKS.out, .inr ⟨rfl, rfl, rfl, rfl, rfl⟩⟩
  · rw [Nat.zero_add] at h
    have HL := Lib.hid h
    have hjl : j < s.Images.length := (List.getElem?_eq_some_iff.1 hj).1
    obtain ⟨g', off, y', Ax, cx, rfl, hgb, hyk, m0, m1, p0, hsy⟩ := atImage k0 hjl
    have hxy : y' = y := by rw [hj] at hyk; injection hyk with hyk; exact hyk.symm
    subst hxy
    have hys : y'.Code.size ≤ 1099511627776 := hst y' (List.mem_of_getElem? hj)
    have hbb := btw_iff.1 (hbs b (List.mem_of_getElem? hb))
    have hab : I64 (m.Pc - b) := ⟨by have := hpc.1; omega, by have := hpc.2; omega⟩
    have hj0 : ¬ ((j : Int) < 0) := by omega
    have hji : (j : Int) < (s.Images.length : Int) := by omega
    have HQ0 := stepM_at h hj
    obtain ⟨r, hr⟩ : ∃ r, decOp y'.Code (m.Pc - b) = r := ⟨_, rfl⟩
    rw [hr] at HQ0
    have HR := Lib.hid hr
    have hdo := decOp_ok hr
    have hda := decOp_arg hr
    have hdb := decOp_bd hr
    obtain ⟨rok, hrok⟩ : ∃ q, r.ok = q := ⟨_, rfl⟩
    rw [hrok] at HQ0 hdo
    cases rok with
    | false =>
      have HQ := Lib.hid (HQ0.trans (if_neg (by simp)))
      clear h hst hbs hk HQ0 hdo hda hdb hr hj hb hyk
      go_wp2_with (first
        | (go_at_call 130; (with_reducible refine (locate_i (imgs := s.Images) (bases := s.Bases) (es := s.Entries) (e := m.Pc) (Ty.up _ k0 (by repeat (first | with_reducible exact Gro.refl _ | with_reducible exact Gro.refl_drew _ _ _ | with_reducible exact Gro.refl_drewN _ _ _ _ | assumption | with_reducible apply Gro.more | with_reducible apply Gro.alloc | with_reducible apply Gro.drew | with_reducible apply Gro.drewN))) (Ty.up _ k1 (by repeat (first | with_reducible exact Gro.refl _ | with_reducible exact Gro.refl_drew _ _ _ | with_reducible exact Gro.refl_drewN _ _ _ _ | assumption | with_reducible apply Gro.more | with_reducible apply Gro.alloc | with_reducible apply Gro.drew | with_reducible apply Gro.drewN))) HLL.out HST.out HBS.out hpc).mono ?_); rw [HL.out]; rintro e w1 ⟨rfl, os1, d1, rfl⟩; have m01 := gro_keeps m0 os1 d1; have a01 := gro_keeps a0 os1 d1)
        | (go_at_call 131; (with_reducible refine (decodeOp_i y'.Code (m.Pc - b) _ hys hab).mono ?_); rw [HR.out]; rintro e w2 ⟨rfl, os2, d2, rfl⟩))
      rw [HQ.out]
      have h9 := set7 eb2 (.int .i64 m.Pc) (.int .i64 m.Sp) (.int .i64 m.Fp) (.slice A3 m.Stack.length c3) (.slice A4 m.Out.length c4) (.int .i64 2) (.int .i64 m.Value)
      generalize (((((((Y.setCell ⟨g + 1 + 1, 0, none⟩ (.int .i64 m.Pc)).setCell ⟨g + 1 + 1, 1, none⟩ (.int .i64 m.Sp)).setCell ⟨g + 1 + 1, 2, none⟩ (.int .i64 m.Fp)).setCell ⟨g + 1 + 1, 3, none⟩ (.slice A3 m.Stack.length c3)).setCell ⟨g + 1 + 1, 4, none⟩ (.slice A4 m.Out.length c4)).setCell ⟨g + 1 + 1, 5, none⟩ (.int .i64 2)).setCell ⟨g + 1 + 1, 6, none⟩ (.int .i64 m.Value)) = X at h9 ⊢
      have hGX := h9.2.gro hG0 (fun b hb' => by simp at hb'; omega)
      have hX2 : Gro X ((gro (gro X os1 d1) os2 d2).alloc (.cells #[.int .i64 r.code, .int .i64 r.arg] 166)) := (by repeat (first | with_reducible exact Gro.refl _ | with_reducible exact Gro.refl_drew _ _ _ | with_reducible exact Gro.refl_drewN _ _ _ _ | assumption | with_reducible apply Gro.more | with_reducible apply Gro.alloc | with_reducible apply Gro.drew | with_reducible apply Gro.drewN))
      obtain ⟨r0, r1, r2, r3, r4, r5, r6, _, _⟩ := row7 (grow_blk h9.1 hX2)
      exact bodyPost_ret (v := .agg #[.int .i64 m.Pc, .int .i64 m.Sp, .int .i64 m.Fp, .slice A3 m.Stack.length c3, .slice A4 m.Out.length c4, .int .i64 2, .int .i64 m.Value]) (by simp [results, Try.results109, go_sem, r0, r1, r2, r3, r4, r5, r6]) rfl ⟨A3, c3, A4, c4, rfl, hGX.trans hX2, HKS.out, .inr ⟨rfl, rfl, rfl, rfl, rfl⟩⟩
    | true =>
      have HQ := Lib.hid (HQ0.trans (if_pos rfl))
      have HAO : ArgOk r.code r.arg := hdb
      have HAH := Lib.hid HAO
      have hai : I64 r.arg := ⟨by omega, by omega⟩
      obtain ⟨_, hn1, hn5, _, hc1, hc2⟩ := hdo rfl
      have hszm : szMachine m ≤ 1099511627776 := by
        have h1 := hk.len
        have h2 := hk.out
        unfold szMachine
        omega
      have HMS := Lib.hid hszm
      have HM := Lib.hid hk
      have hst0 : I64 m.State := hk.st
      clear h hst hbs HQ0 hdo hda hdb HAO hr hj hb hyk hszm
      go_upto_region 11 with (first
        | (go_at_call 130; (with_reducible refine (locate_i (imgs := s.Images) (bases := s.Bases) (es := s.Entries) (e := m.Pc) (Ty.up _ k0 (by repeat (first | with_reducible exact Gro.refl _ | with_reducible exact Gro.refl_drew _ _ _ | with_reducible exact Gro.refl_drewN _ _ _ _ | assumption | with_reducible apply Gro.more | with_reducible apply Gro.alloc | with_reducible apply Gro.drew | with_reducible apply Gro.drewN))) (Ty.up _ k1 (by repeat (first | with_reducible exact Gro.refl _ | with_reducible exact Gro.refl_drew _ _ _ | with_reducible exact Gro.refl_drewN _ _ _ _ | assumption | with_reducible apply Gro.more | with_reducible apply Gro.alloc | with_reducible apply Gro.drew | with_reducible apply Gro.drewN))) HLL.out HST.out HBS.out hpc).mono ?_); rw [HL.out]; rintro e w1 ⟨rfl, os1, d1, rfl⟩; have m01 := gro_keeps m0 os1 d1; have a01 := gro_keeps a0 os1 d1)
        | (go_at_call 131; (with_reducible refine (decodeOp_i y'.Code (m.Pc - b) _ hys hab).mono ?_); rw [HR.out]; rintro e w2 ⟨rfl, os2, d2, rfl⟩))
      have hG1 : Gro Y ((gro (gro Y os1 d1) os2 d2).alloc (.cells #[.int .i64 r.code, .int .i64 r.arg] 166)) := (by repeat (first | with_reducible exact Gro.refl _ | with_reducible exact Gro.refl_drew _ _ _ | with_reducible exact Gro.refl_drewN _ _ _ _ | assumption | with_reducible apply Gro.more | with_reducible apply Gro.alloc | with_reducible apply Gro.drew | with_reducible apply Gro.drewN))
      have eop := heap_alloc_new (gro (gro Y os1 d1) os2 d2) (.cells #[.int .i64 r.code, .int .i64 r.arg] 166)
      rw [gro_size, gro_size] at eop
      obtain ⟨g5, hg5⟩ : ∃ g5, Y.heap.size + os1.size + os2.size = g5 := ⟨_, rfl⟩
      rw [hg5] at eop ⊢
      have q0 := grow_blk eb0 hG1
      have q1 := grow_blk eb1 hG1
      have q2 := grow_blk eb2 hG1
      have q3 := grow_blk eb3 hG1
      have kk2 := Ty.up _ k2 hG1
      have kk3 := Ty.up _ k3 hG1
      have kk4 := Ty.up _ k4 hG1
      generalize (gro (gro Y os1 d1) os2 d2).alloc (.cells #[.int .i64 r.code, .int .i64 r.arg] 166) = W1 at hG1 eop q0 q1 q2 q3 kk2 kk3 kk4 ⊢
      have hGW := hG0.trans hG1
      have hcm := copyMachine_i (x := m) hpc hk.sp hk.fp kk3 kk4 hst0 hk.va HMS.out
      clear k0 k1 k2 k3 k4 a0 a1 a2 af al b0' b1' b2' b3' b4' b5' b6' bf bl z0 z1 z2 z3 z4 z5 z6 zf zl x0 x1 x2 x3 x4 x5 x6 xf xl m0 m1 p0 hsy eb0 eb1 eb2 eb3 m01 a01 hgb hg5 hk
      rw [hm0] at hcm
      have HCM := Lib.hid hcm
      clear hcm
      obtain ⟨a0, a1, a2, af, al⟩ := row3 q0
      obtain ⟨b0', b1', b2', b3', b4', b5', b6', bf, bl⟩ := row7 q1
      obtain ⟨o0, o1, of0, of1, ol⟩ := box2 eop
      have hwp : wrap64 (m.Pc + (r.n : Int)) = m.Pc + (r.n : Int) := wrap64_small (by omega) (by omega)
      go_upto_region 14 with (go_at_call 108; (with_reducible refine HCM.out.mono ?_); rintro e w3 ⟨B0, d0, B1, d1, rfl, hFm, os3, d3, rfl⟩)
      have hC := StI.make (B := [(g, Obj.cells #[.slice (some ⟨g', off, none⟩) s.Images.length c0, .slice A1 s.Bases.length c1, .slice A2 s.Entries.length c2] 33 (0, 0)), (g + 1, Obj.cells #[.int .i64 m.Pc, .int .i64 m.Sp, .int .i64 m.Fp, .slice A3 m.Stack.length c3, .slice A4 m.Out.length c4, .int .i64 0, .int .i64 m.Value] 80 (0, 0)), (g + 1 + 1, Obj.cells #[.int .i64 0, .int .i64 0, .int .i64 0, .slice none 0 0, .slice none 0 0, .int .i64 0, .int .i64 0] 80 (0, 0)), (g + 1 + 1 + 1, Obj.cells #[.int .i64 m.Pc, .int .i64 m.Sp, .int .i64 m.Fp, .slice A3 m.Stack.length c3, .slice A4 m.Out.length c4, .int .i64 2, .int .i64 m.Value] 80 (0, 0)), (g5, Obj.cells #[.int .i64 r.code, .int .i64 r.arg] 166 (0, 0))]) (N := N) (m' := { m with Pc := m.Pc + (r.n : Int) }) (row := #[.int .i64 (m.Pc + (r.n : Int)), .int .i64 m.Sp, .int .i64 m.Fp, .slice B0 m.Stack.length d0, .slice B1 m.Out.length d1, .int .i64 0, .int .i64 m.Value]) (by simp [hm0]) hFm (Gro.refl _) (Gro.of W1 os3 d3) (by
        intro p hp
        simp only [List.mem_cons, List.not_mem_nil, or_false] at hp
        rcases hp with rfl | rfl | rfl | rfl | rfl
        · exact q0
        · exact q1
        · exact q2
        · exact q3
        · exact eop) ⟨HM.out.len, HM.out.out, ⟨by show _ ≤ m.Pc + (r.n : Int); omega, by show m.Pc + (r.n : Int) ≤ _; omega⟩, HM.out.sp, HM.out.fp, HM.out.st, HM.out.va⟩ rfl rfl
      rw [gro_size] at hC
      obtain ⟨gm, hgm⟩ : ∃ gm, W1.heap.size + os3.size = gm := ⟨_, rfl⟩
      rw [hgm] at hC ⊢
      obtain ⟨mm, hmm⟩ : ∃ mm, ({ m with Pc := m.Pc + (r.n : Int) } : DMachine) = mm := ⟨_, rfl⟩
      have hpb : -4611686018427387904 ≤ mm.Pc ∧ mm.Pc ≤ 4611686018427387904 := by rw [← hmm]; exact ⟨by show _ ≤ m.Pc + (r.n : Int); omega, by show m.Pc + (r.n : Int) ≤ _; omega⟩
      have hQm := HQ.out
      rw [hmm] at hC hQm
      generalize ((gro W1 os3 d3).alloc (.cells #[.int .i64 (m.Pc + (r.n : Int)), .int .i64 m.Sp, .int .i64 m.Fp, .slice B0 m.Stack.length d0, .slice B1 m.Out.length d1, .int .i64 0, .int .i64 m.Value] 80)).alloc (.cells #[.pointer (some ⟨gm, 0, none⟩), .bool false] 174) = wc at hC ⊢
      have HC := Lib.hid hC
      have HQm := Lib.hid hQm
      have HM0 := Lib.hid hm0
      clear hC hmm hgm HQ hQm q0 q1 q2 q3 eop kk3 kk4 b0' b1' b2' b3' b4' b5' b6' bf bl o0 o1 of0 of1 ol a0 a1 a2 af al hwp HCM hFm hm0
      obtain ⟨q0, q1, q2, qf, ql⟩ := row3 (HC.out.kept (g := g) (.head _))
      obtain ⟨o0, o1, of0, of1, ol⟩ := box2 (HC.out.kept (g := g5) (.tail _ (.tail _ (.tail _ (.tail _ (.head _))))))
      go_upto_region 15 with (go_at_call 132; (with_reducible refine (perform_i (es := s.Entries) HC.out kk2 (by omega) (by omega) hpb ⟨hc1, hc2⟩ HAH.out hai).mono ?_); rintro e w4 ⟨rfl, b1, m1, hC1, ho1⟩)
      have hQ1 : stepM s m = ((opt b1 m1).bind endM).getD { m with State := 2 } := by rw [HQm.out, ho1]; rfl
      have HQ1 := Lib.hid hQ1
      clear hQ1 ho1 q0 q1 q2 qf ql o0 o1 of0 of1 ol HQm
      obtain ⟨Ay, cy, Aoy, coy, y0, y1, yf, yl, z0, z1, z2, z3, z4, z5, z6, zf, zl, hky⟩ := hC1.cells
      obtain ⟨x0, x1, x2, x3, x4, x5, x6, xf, xl⟩ := row7 (hC1.kept (g := g + 1 + 1 + 1) (.tail _ (.tail _ (.tail _ (.head _)))))
      obtain ⟨u0, u1, u2, u3, u4, u5, u6, uf, ul⟩ := row7 (hC1.kept (g := g + 1 + 1) (.tail _ (.tail _ (.head _))))
      have HC1 := Lib.hid hC1
      clear hC1
      cases b1 with
      | true =>
        have HS := Lib.hid (HQ1.out.trans rfl)
        go_wp2_with (fail)
        have hz := (HC1.out.kept (g := g + 1 + 1) (.tail _ (.tail _ (.head _))))
        have h9 := set7 hz (.int .i64 m.Pc) (.int .i64 m.Sp) (.int .i64 m.Fp) (.slice A3 m.Stack.length c3) (.slice A4 m.Out.length c4) (.int .i64 2) (.int .i64 m.Value)
        generalize (((((((w4.setCell ⟨g + 1 + 1, 0, none⟩ (.int .i64 m.Pc)).setCell ⟨g + 1 + 1, 1, none⟩ (.int .i64 m.Sp)).setCell ⟨g + 1 + 1, 2, none⟩ (.int .i64 m.Fp)).setCell ⟨g + 1 + 1, 3, none⟩ (.slice A3 m.Stack.length c3)).setCell ⟨g + 1 + 1, 4, none⟩ (.slice A4 m.Out.length c4)).setCell ⟨g + 1 + 1, 5, none⟩ (.int .i64 2)).setCell ⟨g + 1 + 1, 6, none⟩ (.int .i64 m.Value)) = X at h9 ⊢
        obtain ⟨r0, r1, r2, r3, r4, r5, r6, _, _⟩ := row7 h9.1
        have hGX := h9.2.gro (hGW.trans HC1.out.grow) (fun b hb' => by simp at hb'; omega)
        rw [HS.out]
        exact bodyPost_ret (v := .agg #[.int .i64 m.Pc, .int .i64 m.Sp, .int .i64 m.Fp, .slice A3 m.Stack.length c3, .slice A4 m.Out.length c4, .int .i64 2, .int .i64 m.Value]) (by simp [results, Try.results109, go_sem, r0, r1, r2, r3, r4, r5, r6]) rfl ⟨A3, c3, A4, c4, rfl, hGX, HKS.out, .inr ⟨rfl, rfl, rfl, rfl, rfl⟩⟩
      | false =>
        by_cases hpz : m1.Pc = 0
        · have hC2 := HC1.out.num (i := 5) (v := .int .i64 1) (m' := { m1 with State := 1 }) rfl rfl ⟨hky.len, hky.out, hky.pc, hky.sp, hky.fp, i1, hky.va⟩ (fun _ _ => rfl)
          go_upto_region 17 with (fail)
          generalize w4.setCell ⟨gm, 5, none⟩ (.int .i64 1) = w5 at hC2 ⊢
          have HC2 := Lib.hid hC2
          clear hC2
          clear Ay cy Aoy coy y0 y1 yf yl z0 z1 z2 z3 z4 z5 z6 zf zl hky x0 x1 x2 x3 x4 x5 x6 xf xl u0 u1 u2 u3 u4 u5 u6 uf ul
          obtain ⟨Ay, cy, Aoy, coy, SS, y0, y1, yf, yl, eM, hky, hHs, hlS, hnS⟩ := HC2.out.all
          obtain ⟨z0, z1, z2, z3, z4, z5, z6, zf, zl⟩ := row7 eM
          obtain ⟨x0, x1, x2, x3, x4, x5, x6, xf, xl⟩ := row7 (HC2.out.kept (g := g + 1 + 1 + 1) (.tail _ (.tail _ (.tail _ (.head _)))))
          obtain ⟨u0, u1, u2, u3, u4, u5, u6, uf, ul⟩ := row7 (HC2.out.kept (g := g + 1 + 1) (.tail _ (.tail _ (.head _))))
          obtain ⟨q, hq⟩ : ∃ q, btw m1.Sp 0 1199 = q := ⟨_, rfl⟩
          cases q with
          | false =>
            have HS := Lib.hid (HQ1.out.trans (show ((some m1).bind endM).getD { m with State := 2 } = { m with State := 2 } from by show (endM m1).getD _ = _; unfold endM; rw [if_pos hpz, cAt_out hq]; rfl))
            have HA := Lib.hid (show (false || !btw m1.Sp 0 1199) = true from by rw [hq]; rfl)
            clear hq
            go_upto_region 19 with (go_at_call 133; (with_reducible refine (HC2.out.at_ (a := m1.Sp)).mono ?_); rw [HA.out]; rintro e w6 ⟨rfl, hC3⟩)
            have HC3 := Lib.hid hC3
            clear hC3
            clear Ay cy Aoy coy y0 y1 yf yl z0 z1 z2 z3 z4 z5 z6 zf zl hky x0 x1 x2 x3 x4 x5 x6 xf xl u0 u1 u2 u3 u4 u5 u6 uf ul eM hHs hlS hnS
            obtain ⟨Ay, cy, Aoy, coy, SS, y0, y1, yf, yl, eM, hky, hHs, hlS, hnS⟩ := HC3.out.all
            obtain ⟨z0, z1, z2, z3, z4, z5, z6, zf, zl⟩ := row7 eM
            obtain ⟨x0, x1, x2, x3, x4, x5, x6, xf, xl⟩ := row7 (HC3.out.kept (g := g + 1 + 1 + 1) (.tail _ (.tail _ (.tail _ (.head _)))))
            obtain ⟨u0, u1, u2, u3, u4, u5, u6, uf, ul⟩ := row7 (HC3.out.kept (g := g + 1 + 1) (.tail _ (.tail _ (.head _))))
            go_wp2_with (fail)
            have hz := (HC3.out.kept (g := g + 1 + 1) (.tail _ (.tail _ (.head _))))
            have h9 := set7 hz (.int .i64 m.Pc) (.int .i64 m.Sp) (.int .i64 m.Fp) (.slice A3 m.Stack.length c3) (.slice A4 m.Out.length c4) (.int .i64 2) (.int .i64 m.Value)
            generalize (((((((w6.setCell ⟨g + 1 + 1, 0, none⟩ (.int .i64 m.Pc)).setCell ⟨g + 1 + 1, 1, none⟩ (.int .i64 m.Sp)).setCell ⟨g + 1 + 1, 2, none⟩ (.int .i64 m.Fp)).setCell ⟨g + 1 + 1, 3, none⟩ (.slice A3 m.Stack.length c3)).setCell ⟨g + 1 + 1, 4, none⟩ (.slice A4 m.Out.length c4)).setCell ⟨g + 1 + 1, 5, none⟩ (.int .i64 2)).setCell ⟨g + 1 + 1, 6, none⟩ (.int .i64 m.Value)) = X at h9 ⊢
            obtain ⟨r0, r1, r2, r3, r4, r5, r6, _, _⟩ := row7 h9.1
            have hGX := h9.2.gro (hGW.trans HC3.out.grow) (fun b hb' => by simp at hb'; omega)
            rw [HS.out]
            exact bodyPost_ret (v := .agg #[.int .i64 m.Pc, .int .i64 m.Sp, .int .i64 m.Fp, .slice A3 m.Stack.length c3, .slice A4 m.Out.length c4, .int .i64 2, .int .i64 m.Value]) (by simp [results, Try.results109, go_sem, r0, r1, r2, r3, r4, r5, r6]) rfl ⟨A3, c3, A4, c4, rfl, hGX, HKS.out, .inr ⟨rfl, rfl, rfl, rfl, rfl⟩⟩
          | true =>
            have hbb := btw_iff.1 hq
            obtain ⟨k, hsp⟩ := Int.eq_ofNat_of_zero_le (show 0 ≤ m1.Sp by omega)
            have hk12 : k < 1200 := by omega
            obtain ⟨_, vo, _, _, _, _, xv0, xb0, _⟩ := HC2.out.word hk12
            have HS := Lib.hid (HQ1.out.trans (show ((some m1).bind endM).getD { m with State := 2 } = { m1 with State := 1, Value := vo } from by show (endM m1).getD _ = _; unfold endM; rw [if_pos hpz, cAt_in hq (v := vo) (by rw [hsp]; exact xv0)]; rfl))
            have HV := Lib.hid xv0
            have HA := Lib.hid (show (false || !btw (k : Int) 0 1199) = false from by rw [Bool.false_or, btw_mk (by omega) (by omega)]; rfl)
            clear hq xv0
            go_upto_region 18 with (go_at_call 133; (with_reducible refine (HC2.out.at_ (a := (k : Int))).mono ?_); rw [HA.out]; rintro e w6 ⟨rfl, hC3⟩)
            have HC3 := Lib.hid hC3
            clear hC3
            clear Ay cy Aoy coy y0 y1 yf yl z0 z1 z2 z3 z4 z5 z6 zf zl hky x0 x1 x2 x3 x4 x5 x6 xf xl u0 u1 u2 u3 u4 u5 u6 uf ul eM hHs hlS hnS
            obtain ⟨Ay, cy, Aoy, coy, SS, y0, y1, yf, yl, eM, hky, hHs, hlS, hnS⟩ := HC3.out.all
            obtain ⟨z0, z1, z2, z3, z4, z5, z6, zf, zl⟩ := row7 eM
            obtain ⟨x0, x1, x2, x3, x4, x5, x6, xf, xl⟩ := row7 (HC3.out.kept (g := g + 1 + 1 + 1) (.tail _ (.tail _ (.tail _ (.head _)))))
            obtain ⟨u0, u1, u2, u3, u4, u5, u6, uf, ul⟩ := row7 (HC3.out.kept (g := g + 1 + 1) (.tail _ (.tail _ (.head _))))
            obtain ⟨gs, vp, cs, t3, tl, tf, tv, tb, tc, tg1, tg2, tput⟩ := HC3.out.word hk12
            obtain rfl : vo = vp := by have := HV.out.symm.trans tv; injection this
            have hlen : ((1200 : Nat) : Int) = m1.Stack.length := by rw [← hky.len]
            have hki : (k : Int) < (m1.Stack.length : Int) := by rw [← hlen]; omega
            clear z3 tput
            have hC4 := HC3.out.num (i := 6) (v := .int .i64 vo) (m' := { m1 with State := 1, Value := vo }) rfl rfl ⟨hky.len, hky.out, hky.pc, hky.sp, hky.fp, i1, xb0⟩ (fun _ _ => rfl)
            have HC4 := Lib.hid hC4
            clear hC4
            go_upto_region 19 with (fail)
            have hC4 := HC4.out
            have hSS := HS.out
            obtain ⟨m3, hm3⟩ : ∃ m3, ({ m1 with State := 1, Value := vo } : DMachine) = m3 := ⟨_, rfl⟩
            rw [hm3] at hC4 hSS
            clear HC4 HS hm3
            have HS := Lib.hid hSS
            generalize w6.setCell ⟨gm, 6, none⟩ (.int .i64 vo) = w7 at hC4 ⊢
            have HC4 := Lib.hid hC4
            clear hC4 hSS
            clear t3 tl tf tv tb tc tg1 tg2 y0 y1 yf yl z0 z1 z2 z4 z5 z6 zf zl x0 x1 x2 x3 x4 x5 x6 xf xl u0 u1 u2 u3 u4 u5 u6 uf ul hky eM hHs hlS hnS
            obtain ⟨Ay, cy, Aoy, coy, SS, y0, y1, yf, yl, eM, hky, hHs, hlS, hnS⟩ := HC4.out.all
            obtain ⟨z0, z1, z2, z3, z4, z5, z6, zf, zl⟩ := row7 eM
            obtain ⟨x0, x1, x2, x3, x4, x5, x6, xf, xl⟩ := row7 (HC4.out.kept (g := g + 1 + 1 + 1) (.tail _ (.tail _ (.tail _ (.head _)))))
            obtain ⟨u0, u1, u2, u3, u4, u5, u6, uf, ul⟩ := row7 (HC4.out.kept (g := g + 1 + 1) (.tail _ (.tail _ (.head _))))
            go_wp2_with (fail)
            have hz := (HC4.out.kept (g := g + 1 + 1) (.tail _ (.tail _ (.head _))))
            have h9 := set7 hz (.int .i64 m3.Pc) (.int .i64 m3.Sp) (.int .i64 m3.Fp) (.slice Ay m3.Stack.length cy) (.slice Aoy m3.Out.length coy) (.int .i64 m3.State) (.int .i64 m3.Value)
            generalize (((((((w7.setCell ⟨g + 1 + 1, 0, none⟩ (.int .i64 m3.Pc)).setCell ⟨g + 1 + 1, 1, none⟩ (.int .i64 m3.Sp)).setCell ⟨g + 1 + 1, 2, none⟩ (.int .i64 m3.Fp)).setCell ⟨g + 1 + 1, 3, none⟩ (.slice Ay m3.Stack.length cy)).setCell ⟨g + 1 + 1, 4, none⟩ (.slice Aoy m3.Out.length coy)).setCell ⟨g + 1 + 1, 5, none⟩ (.int .i64 m3.State)).setCell ⟨g + 1 + 1, 6, none⟩ (.int .i64 m3.Value)) = X at h9 ⊢
            obtain ⟨r0, r1, r2, r3, r4, r5, r6, _, _⟩ := row7 h9.1
            have hGX := h9.2.gro (hGW.trans HC4.out.grow) (fun b hb' => by simp at hb'; omega)
            have hF9 := hHs.keep h9.2 (fun b hb' hm => by simp at hm; exact hnS _ (.tail _ (.tail _ (.head _))) (hm ▸ hb'))
            have hw1 := hGW.size
            rw [HS.out]
            exact bodyPost_ret (v := .agg #[.int .i64 m3.Pc, .int .i64 m3.Sp, .int .i64 m3.Fp, .slice Ay m3.Stack.length cy, .slice Aoy m3.Out.length coy, .int .i64 m3.State, .int .i64 m3.Value]) (by simp [results, Try.results109, go_sem, r0, r1, r2, r3, r4, r5, r6]) rfl ⟨Ay, cy, Aoy, coy, rfl, hGX, hky, .inl (hF9.fresh (fun b hb' => by have h1 := hlS b hb'; omega))⟩
        · have HS := Lib.hid (HQ1.out.trans (show ((some m1).bind endM).getD { m with State := 2 } = m1 from by show (endM m1).getD _ = _; unfold endM; rw [if_neg hpz]; rfl))
          clear Ay cy Aoy coy y0 y1 yf yl z0 z1 z2 z3 z4 z5 z6 zf zl hky x0 x1 x2 x3 x4 x5 x6 xf xl u0 u1 u2 u3 u4 u5 u6 uf ul
          obtain ⟨Ay, cy, Aoy, coy, SS, y0, y1, yf, yl, eM, hky, hHs, hlS, hnS⟩ := HC1.out.all
          obtain ⟨z0, z1, z2, z3, z4, z5, z6, zf, zl⟩ := row7 eM
          obtain ⟨x0, x1, x2, x3, x4, x5, x6, xf, xl⟩ := row7 (HC1.out.kept (g := g + 1 + 1 + 1) (.tail _ (.tail _ (.tail _ (.head _)))))
          obtain ⟨u0, u1, u2, u3, u4, u5, u6, uf, ul⟩ := row7 (HC1.out.kept (g := g + 1 + 1) (.tail _ (.tail _ (.head _))))
          go_wp2_with (fail)
          have hz := (HC1.out.kept (g := g + 1 + 1) (.tail _ (.tail _ (.head _))))
          have h9 := set7 hz (.int .i64 m1.Pc) (.int .i64 m1.Sp) (.int .i64 m1.Fp) (.slice Ay m1.Stack.length cy) (.slice Aoy m1.Out.length coy) (.int .i64 m1.State) (.int .i64 m1.Value)
          generalize (((((((w4.setCell ⟨g + 1 + 1, 0, none⟩ (.int .i64 m1.Pc)).setCell ⟨g + 1 + 1, 1, none⟩ (.int .i64 m1.Sp)).setCell ⟨g + 1 + 1, 2, none⟩ (.int .i64 m1.Fp)).setCell ⟨g + 1 + 1, 3, none⟩ (.slice Ay m1.Stack.length cy)).setCell ⟨g + 1 + 1, 4, none⟩ (.slice Aoy m1.Out.length coy)).setCell ⟨g + 1 + 1, 5, none⟩ (.int .i64 m1.State)).setCell ⟨g + 1 + 1, 6, none⟩ (.int .i64 m1.Value)) = X at h9 ⊢
          obtain ⟨r0, r1, r2, r3, r4, r5, r6, _, _⟩ := row7 h9.1
          have hGX := h9.2.gro (hGW.trans HC1.out.grow) (fun b hb' => by simp at hb'; omega)
          have hF9 := hHs.keep h9.2 (fun b hb' hm => by simp at hm; exact hnS _ (.tail _ (.tail _ (.head _))) (hm ▸ hb'))
          have hw1 := hGW.size
          rw [HS.out]
          exact bodyPost_ret (v := .agg #[.int .i64 m1.Pc, .int .i64 m1.Sp, .int .i64 m1.Fp, .slice Ay m1.Stack.length cy, .slice Aoy m1.Out.length coy, .int .i64 m1.State, .int .i64 m1.Value]) (by simp [results, Try.results109, go_sem, r0, r1, r2, r3, r4, r5, r6]) rfl ⟨Ay, cy, Aoy, coy, rfl, hGX, hky, .inl (hF9.fresh (fun b hb' => by have h1 := hlS b hb'; omega))⟩
end Go.Proofs.Ytbhobjepjaeffaa
