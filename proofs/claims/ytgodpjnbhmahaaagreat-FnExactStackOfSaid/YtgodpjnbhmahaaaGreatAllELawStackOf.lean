/-
  PART 5 of the texts of this claim, one behind the other: contracts and laws that the last part uses.
-/
import Derived.Test.YtgodpjnbhmahaaaGreatAllDLawStackOf
set_option linter.unusedVariables false
set_option linter.unusedSimpArgs false
namespace Go.Proofs.YtgodpjnbhmahaaaGreat
open Go.RowKit
set_option maxRecDepth 100000 in
set_option maxHeartbeats 4000000 in
theorem inlinesOk_i {rs : List DInline} {w : World} {A : Option Addr} {c : Nat} (hx : (tInline.sl 260).R w w.heap.size [.slice A rs.length c] rs) :
    Calls Tryz.prog 233 #[.slice A rs.length c] w fun e w' => e = .returned (.bool (inlinesOk rs)) ∧ Gro w w' := by
  obtain ⟨_, _, hx', h1, h2⟩ := sl_at hx
  injection hx' with e1 e2 e3
  subst e1 e3
  clear e2
  go_enter Tryz.func233, Tryz.ntmps233
  go_wp2
  go_loopw [10] (fun a wr => ∃ k : Nat, a = .int .i64 k ∧ k ≤ rs.length ∧ Hid (Gro w wr) ∧ Hid (inlG rs k (rs.drop k) = inlinesOk rs)) (fun a _ => rs.length - (intOf a).toNat)
  case atStart => exact ⟨0, rfl, Nat.zero_le _, Lib.hid (Gro.refl _), Lib.hid rfl⟩
  case round =>
    obtain ⟨k, rfl, hk, hG, hE⟩ := hrel
    obtain ⟨os, d, rfl⟩ := hG.out
    clear hG
    by_cases hlt : k < rs.length
    · obtain ⟨g, off, x, hA, hgb, hxk, x0, x1, x2, x3, x4, bs, be, bl, bi, bn⟩ := atInline hx hlt
      have HX := Lib.hid hxk
      have x0 := gro_keeps x0 os d
      have x1 := gro_keeps x1 os d
      have x2 := gro_keeps x2 os d
      have x3 := gro_keeps x3 os d
      have x4 := gro_keeps x4 os d
      have hki : (k : Int) < (rs.length : Int) := by omega
      clear hxk
      subst hA
      cases k with
      | zero =>
        simp only [Nat.zero_mul, Nat.add_zero] at x0 x1 x2 x3 x4
        have hz : ¬ ((0 : Int) < ((0 : Nat) : Int)) := by omega
        go_upto_region 4 with (fail)
        have hG0 : Gro w ((gro w os d).alloc (.cells #[.int .i64 x.Start, .int .i64 x.End, .int .i64 x.Level, .int .i64 x.Line, .string x.Name] 260)) := gG
        have eb := heap_alloc_new (gro w os d) (.cells #[.int .i64 x.Start, .int .i64 x.End, .int .i64 x.Level, .int .i64 x.Line, .string x.Name] 260)
        obtain ⟨gb, hgb2⟩ : ∃ g, w.heap.size + os.size = g := ⟨_, rfl⟩
        rw [show (gro w os d).heap.size = w.heap.size + os.size from by simp, hgb2] at eb
        try rw [hgb2]
        clear x0 x1 x2 x3 x4
        generalize (gro w os d).alloc (.cells #[.int .i64 x.Start, .int .i64 x.End, .int .i64 x.Level, .int .i64 x.Line, .string x.Name] 260) = Y at hG0 eb ⊢
        obtain ⟨z0, z1, z2, z3, z4, zf, zl⟩ := row5 eb
        obtain ⟨b1, hb1⟩ : ∃ b, inl1 x = b := ⟨_, rfl⟩
        have HL := Lib.hid hb1
        clear hb1
        cases b1 with
        | false =>
          have HR := Lib.hid (show inlK rs 0 x = false from inlK_one HL.out)
          refine region_T (fun w' => w'.cell? ⟨gb, 0, none⟩ = some (.int .i64 x.Start) ∧ w'.cell? ⟨gb, 1, none⟩ = some (.int .i64 x.End) ∧ w'.cell? ⟨gb, 2, none⟩ = some (.int .i64 x.Level) ∧ w'.cell? ⟨gb, 3, none⟩ = some (.int .i64 x.Line) ∧ w'.cell? ⟨gb, 4, none⟩ = some (.string x.Name)) 39 (by kernel_rfl) (And.intro (drew_keeps z0) (And.intro (drew_keeps z1) (And.intro (drew_keeps z2) (And.intro (drew_keeps z3) (drew_keeps z4))))) (fun hH => ?_)
          have hdr : Gro Y Y.drew := (Gro.refl _).drew
          clear z0 z1 z2 z3 z4
          generalize Y.drew = wx at hdr hH ⊢
          obtain ⟨z0, z1, z2, z3, z4⟩ := id hH
          refine AnyT.take (i := 0) (cs := [1, 3, 39]) rfl (by kernel_rfl) (by kernel_rfl) (by kernel_rfl) (by kernel_rfl) rfl (by kernel_rfl) (fun _ _ _ h => h) hH (by kernel_rfl) (by intro w hSw; (try dsimp only at hSw); go_simp; (try with_reducible rfl)) ?_
          try simp only [Act.put, List.setIfInBounds_toArray, List.set_cons_zero, List.set_cons_succ]
          refine AnyT.one (i := 1) (by kernel_rfl) rfl (fun K hK => ?_)
          go_simp
          go_at_call 326
          (with_reducible refine (inlineOk_i (x := x) bn).mono ?_); rw [HL.out]
          rintro e v1 ⟨rfl, hg1⟩
          have hgr1 := hdr.trans hg1
          have z0 := grow_cell hg1 z0
          have z1 := grow_cell hg1 z1
          have z2 := grow_cell hg1 z2
          have z3 := grow_cell hg1 z3
          have z4 := grow_cell hg1 z4
          refine hK.out _ _ (And.intro z0 (And.intro z1 (And.intro z2 (And.intro z3 z4)))) (fun hI => ?_)
          clear hK hH
          have hH := hI
          try simp only [Act.put, List.setIfInBounds_toArray, List.set_cons_zero, List.set_cons_succ]
          refine AnyT.take (i := 2) (cs := [3, 39]) rfl (by kernel_rfl) (by kernel_rfl) (by kernel_rfl) (by kernel_rfl) rfl (by kernel_rfl) (fun _ _ _ h => h) hH (by kernel_rfl) (by intro w hSw; (try dsimp only at hSw); go_simp; (try with_reducible rfl)) ?_
          try simp only [Act.put, List.setIfInBounds_toArray, List.set_cons_zero, List.set_cons_succ]
          refine AnyT.take (i := 3) (cs := [39]) rfl (by kernel_rfl) (by kernel_rfl) (by kernel_rfl) (by kernel_rfl) rfl (by kernel_rfl) (fun _ _ _ h => h) hH (by kernel_rfl) (by intro w hSw; (try dsimp only at hSw); go_simp; (try with_reducible rfl)) ?_
          try simp only [Act.put, List.setIfInBounds_toArray, List.set_cons_zero, List.set_cons_succ]
          refine AnyT.skip (i := 4) (cs := [5, 6, 38, 39]) rfl (by kernel_rfl) (by kernel_rfl) (by kernel_rfl) (by kernel_rfl) rfl (by kernel_rfl) (fun _ _ _ h => h) hH (by kernel_rfl) ?_
          try simp only [Act.put, List.setIfInBounds_toArray, List.set_cons_zero, List.set_cons_succ]
          refine AnyT.skip (i := 5) (cs := [6, 38, 39]) rfl (by kernel_rfl) (by kernel_rfl) (by kernel_rfl) (by kernel_rfl) rfl (by kernel_rfl) (fun _ _ _ h => h) hH (by kernel_rfl) ?_
          try simp only [Act.put, List.setIfInBounds_toArray, List.set_cons_zero, List.set_cons_succ]
          refine AnyT.skip (i := 6) (cs := [38, 39]) rfl (by kernel_rfl) (by kernel_rfl) (by kernel_rfl) (by kernel_rfl) rfl (by kernel_rfl) (fun _ _ _ h => h) hH (by kernel_rfl) ?_
          try simp only [Act.put, List.setIfInBounds_toArray, List.set_cons_zero, List.set_cons_succ]
          refine AnyT.skip (i := 7) (cs := [10, 11, 12, 15, 16, 37, 38, 39]) rfl (by kernel_rfl) (by kernel_rfl) (by kernel_rfl) (by kernel_rfl) rfl (by kernel_rfl) (fun _ _ _ h => h) hH (by kernel_rfl) ?_
          try simp only [Act.put, List.setIfInBounds_toArray, List.set_cons_zero, List.set_cons_succ]
          refine AnyT.skip (i := 8) (cs := [9, 10, 11, 12, 15, 16, 37, 38, 39]) rfl (by kernel_rfl) (by kernel_rfl) (by kernel_rfl) (by kernel_rfl) rfl (by kernel_rfl) (fun _ _ _ h => h) hH (by kernel_rfl) ?_
          try simp only [Act.put, List.setIfInBounds_toArray, List.set_cons_zero, List.set_cons_succ]
          refine AnyT.skip (i := 9) (cs := [10, 11, 12, 15, 16, 37, 38, 39]) rfl (by kernel_rfl) (by kernel_rfl) (by kernel_rfl) (by kernel_rfl) rfl (by kernel_rfl) (fun _ _ _ h => h) hH (by kernel_rfl) ?_
          try simp only [Act.put, List.setIfInBounds_toArray, List.set_cons_zero, List.set_cons_succ]
          refine AnyT.skip (i := 10) (cs := [11, 12, 15, 16, 37, 38, 39]) rfl (by kernel_rfl) (by kernel_rfl) (by kernel_rfl) (by kernel_rfl) rfl (by kernel_rfl) (fun _ _ _ h => h) hH (by kernel_rfl) ?_
          try simp only [Act.put, List.setIfInBounds_toArray, List.set_cons_zero, List.set_cons_succ]
          refine AnyT.skip (i := 11) (cs := [12, 15, 16, 37, 38, 39]) rfl (by kernel_rfl) (by kernel_rfl) (by kernel_rfl) (by kernel_rfl) rfl (by kernel_rfl) (fun _ _ _ h => h) hH (by kernel_rfl) ?_
          try simp only [Act.put, List.setIfInBounds_toArray, List.set_cons_zero, List.set_cons_succ]
          refine AnyT.skip (i := 12) (cs := [15, 16, 37, 38, 39]) rfl (by kernel_rfl) (by kernel_rfl) (by kernel_rfl) (by kernel_rfl) rfl (by kernel_rfl) (fun _ _ _ h => h) hH (by kernel_rfl) ?_
          try simp only [Act.put, List.setIfInBounds_toArray, List.set_cons_zero, List.set_cons_succ]
          refine AnyT.skip (i := 13) (cs := [14, 15, 16, 37, 38, 39]) rfl (by kernel_rfl) (by kernel_rfl) (by kernel_rfl) (by kernel_rfl) rfl (by kernel_rfl) (fun _ _ _ h => h) hH (by kernel_rfl) ?_
          try simp only [Act.put, List.setIfInBounds_toArray, List.set_cons_zero, List.set_cons_succ]
          refine AnyT.skip (i := 14) (cs := [15, 16, 37, 38, 39]) rfl (by kernel_rfl) (by kernel_rfl) (by kernel_rfl) (by kernel_rfl) rfl (by kernel_rfl) (fun _ _ _ h => h) hH (by kernel_rfl) ?_
          try simp only [Act.put, List.setIfInBounds_toArray, List.set_cons_zero, List.set_cons_succ]
          refine AnyT.skip (i := 15) (cs := [16, 37, 38, 39]) rfl (by kernel_rfl) (by kernel_rfl) (by kernel_rfl) (by kernel_rfl) rfl (by kernel_rfl) (fun _ _ _ h => h) hH (by kernel_rfl) ?_
          try simp only [Act.put, List.setIfInBounds_toArray, List.set_cons_zero, List.set_cons_succ]
          refine AnyT.skip (i := 16) (cs := [37, 38, 39]) rfl (by kernel_rfl) (by kernel_rfl) (by kernel_rfl) (by kernel_rfl) rfl (by kernel_rfl) (fun _ _ _ h => h) hH (by kernel_rfl) ?_
          try simp only [Act.put, List.setIfInBounds_toArray, List.set_cons_zero, List.set_cons_succ]
          refine AnyT.skip (i := 17) (cs := [20, 21, 22, 25, 26, 36, 37, 38, 39]) rfl (by kernel_rfl) (by kernel_rfl) (by kernel_rfl) (by kernel_rfl) rfl (by kernel_rfl) (fun _ _ _ h => h) hH (by kernel_rfl) ?_
          try simp only [Act.put, List.setIfInBounds_toArray, List.set_cons_zero, List.set_cons_succ]
          refine AnyT.skip (i := 18) (cs := [19, 20, 21, 22, 25, 26, 36, 37, 38, 39]) rfl (by kernel_rfl) (by kernel_rfl) (by kernel_rfl) (by kernel_rfl) rfl (by kernel_rfl) (fun _ _ _ h => h) hH (by kernel_rfl) ?_
          try simp only [Act.put, List.setIfInBounds_toArray, List.set_cons_zero, List.set_cons_succ]
          refine AnyT.skip (i := 19) (cs := [20, 21, 22, 25, 26, 36, 37, 38, 39]) rfl (by kernel_rfl) (by kernel_rfl) (by kernel_rfl) (by kernel_rfl) rfl (by kernel_rfl) (fun _ _ _ h => h) hH (by kernel_rfl) ?_
          try simp only [Act.put, List.setIfInBounds_toArray, List.set_cons_zero, List.set_cons_succ]
          refine AnyT.skip (i := 20) (cs := [21, 22, 25, 26, 36, 37, 38, 39]) rfl (by kernel_rfl) (by kernel_rfl) (by kernel_rfl) (by kernel_rfl) rfl (by kernel_rfl) (fun _ _ _ h => h) hH (by kernel_rfl) ?_
          try simp only [Act.put, List.setIfInBounds_toArray, List.set_cons_zero, List.set_cons_succ]
          refine AnyT.skip (i := 21) (cs := [22, 25, 26, 36, 37, 38, 39]) rfl (by kernel_rfl) (by kernel_rfl) (by kernel_rfl) (by kernel_rfl) rfl (by kernel_rfl) (fun _ _ _ h => h) hH (by kernel_rfl) ?_
          try simp only [Act.put, List.setIfInBounds_toArray, List.set_cons_zero, List.set_cons_succ]
          refine AnyT.skip (i := 22) (cs := [25, 26, 36, 37, 38, 39]) rfl (by kernel_rfl) (by kernel_rfl) (by kernel_rfl) (by kernel_rfl) rfl (by kernel_rfl) (fun _ _ _ h => h) hH (by kernel_rfl) ?_
          try simp only [Act.put, List.setIfInBounds_toArray, List.set_cons_zero, List.set_cons_succ]
          refine AnyT.skip (i := 23) (cs := [24, 25, 26, 36, 37, 38, 39]) rfl (by kernel_rfl) (by kernel_rfl) (by kernel_rfl) (by kernel_rfl) rfl (by kernel_rfl) (fun _ _ _ h => h) hH (by kernel_rfl) ?_
          try simp only [Act.put, List.setIfInBounds_toArray, List.set_cons_zero, List.set_cons_succ]
          refine AnyT.skip (i := 24) (cs := [25, 26, 36, 37, 38, 39]) rfl (by kernel_rfl) (by kernel_rfl) (by kernel_rfl) (by kernel_rfl) rfl (by kernel_rfl) (fun _ _ _ h => h) hH (by kernel_rfl) ?_
          try simp only [Act.put, List.setIfInBounds_toArray, List.set_cons_zero, List.set_cons_succ]
          refine AnyT.skip (i := 25) (cs := [26, 36, 37, 38, 39]) rfl (by kernel_rfl) (by kernel_rfl) (by kernel_rfl) (by kernel_rfl) rfl (by kernel_rfl) (fun _ _ _ h => h) hH (by kernel_rfl) ?_
          try simp only [Act.put, List.setIfInBounds_toArray, List.set_cons_zero, List.set_cons_succ]
          refine AnyT.skip (i := 26) (cs := [36, 37, 38, 39]) rfl (by kernel_rfl) (by kernel_rfl) (by kernel_rfl) (by kernel_rfl) rfl (by kernel_rfl) (fun _ _ _ h => h) hH (by kernel_rfl) ?_
          try simp only [Act.put, List.setIfInBounds_toArray, List.set_cons_zero, List.set_cons_succ]
          refine AnyT.skip (i := 27) (cs := [28, 35, 36, 37, 38, 39]) rfl (by kernel_rfl) (by kernel_rfl) (by kernel_rfl) (by kernel_rfl) rfl (by kernel_rfl) (fun _ _ _ h => h) hH (by kernel_rfl) ?_
          try simp only [Act.put, List.setIfInBounds_toArray, List.set_cons_zero, List.set_cons_succ]
          refine AnyT.skip (i := 28) (cs := [35, 36, 37, 38, 39]) rfl (by kernel_rfl) (by kernel_rfl) (by kernel_rfl) (by kernel_rfl) rfl (by kernel_rfl) (fun _ _ _ h => h) hH (by kernel_rfl) ?_
          try simp only [Act.put, List.setIfInBounds_toArray, List.set_cons_zero, List.set_cons_succ]
          refine AnyT.skip (i := 29) (cs := [32, 33, 34, 35, 36, 37, 38, 39]) rfl (by kernel_rfl) (by kernel_rfl) (by kernel_rfl) (by kernel_rfl) rfl (by kernel_rfl) (fun _ _ _ h => h) hH (by kernel_rfl) ?_
          try simp only [Act.put, List.setIfInBounds_toArray, List.set_cons_zero, List.set_cons_succ]
          refine AnyT.skip (i := 30) (cs := [31, 32, 33, 34, 35, 36, 37, 38, 39]) rfl (by kernel_rfl) (by kernel_rfl) (by kernel_rfl) (by kernel_rfl) rfl (by kernel_rfl) (fun _ _ _ h => h) hH (by kernel_rfl) ?_
          try simp only [Act.put, List.setIfInBounds_toArray, List.set_cons_zero, List.set_cons_succ]
          refine AnyT.skip (i := 31) (cs := [32, 33, 34, 35, 36, 37, 38, 39]) rfl (by kernel_rfl) (by kernel_rfl) (by kernel_rfl) (by kernel_rfl) rfl (by kernel_rfl) (fun _ _ _ h => h) hH (by kernel_rfl) ?_
          try simp only [Act.put, List.setIfInBounds_toArray, List.set_cons_zero, List.set_cons_succ]
          refine AnyT.skip (i := 32) (cs := [33, 34, 35, 36, 37, 38, 39]) rfl (by kernel_rfl) (by kernel_rfl) (by kernel_rfl) (by kernel_rfl) rfl (by kernel_rfl) (fun _ _ _ h => h) hH (by kernel_rfl) ?_
          try simp only [Act.put, List.setIfInBounds_toArray, List.set_cons_zero, List.set_cons_succ]
          refine AnyT.skip (i := 33) (cs := [34, 35, 36, 37, 38, 39]) rfl (by kernel_rfl) (by kernel_rfl) (by kernel_rfl) (by kernel_rfl) rfl (by kernel_rfl) (fun _ _ _ h => h) hH (by kernel_rfl) ?_
          try simp only [Act.put, List.setIfInBounds_toArray, List.set_cons_zero, List.set_cons_succ]
          refine AnyT.skip (i := 34) (cs := [35, 36, 37, 38, 39]) rfl (by kernel_rfl) (by kernel_rfl) (by kernel_rfl) (by kernel_rfl) rfl (by kernel_rfl) (fun _ _ _ h => h) hH (by kernel_rfl) ?_
          try simp only [Act.put, List.setIfInBounds_toArray, List.set_cons_zero, List.set_cons_succ]
          refine AnyT.skip (i := 35) (cs := [36, 37, 38, 39]) rfl (by kernel_rfl) (by kernel_rfl) (by kernel_rfl) (by kernel_rfl) rfl (by kernel_rfl) (fun _ _ _ h => h) hH (by kernel_rfl) ?_
          try simp only [Act.put, List.setIfInBounds_toArray, List.set_cons_zero, List.set_cons_succ]
          refine AnyT.skip (i := 36) (cs := [37, 38, 39]) rfl (by kernel_rfl) (by kernel_rfl) (by kernel_rfl) (by kernel_rfl) rfl (by kernel_rfl) (fun _ _ _ h => h) hH (by kernel_rfl) ?_
          try simp only [Act.put, List.setIfInBounds_toArray, List.set_cons_zero, List.set_cons_succ]
          refine AnyT.skip (i := 37) (cs := [38, 39]) rfl (by kernel_rfl) (by kernel_rfl) (by kernel_rfl) (by kernel_rfl) rfl (by kernel_rfl) (fun _ _ _ h => h) hH (by kernel_rfl) ?_
          try simp only [Act.put, List.setIfInBounds_toArray, List.set_cons_zero, List.set_cons_succ]
          refine AnyT.skip (i := 38) (cs := [39]) rfl (by kernel_rfl) (by kernel_rfl) (by kernel_rfl) (by kernel_rfl) rfl (by kernel_rfl) (fun _ _ _ h => h) hH (by kernel_rfl) ?_
          try simp only [Act.put, List.setIfInBounds_toArray, List.set_cons_zero, List.set_cons_succ]
          refine AnyT.last (by kernel_rfl) rfl (by kernel_rfl) (fun K hK => ?_)
          go_simp
          refine hK.out _ _ ?_
          clear hK
          try simp only [Act.put, List.setIfInBounds_toArray, List.set_cons_zero, List.set_cons_succ]
          have hGv := hG0.trans hgr1
          have hgb9 : gb < v1.heap.size := by have := hgr1.size; omega
          go_wp2_with (fail)
          go_ret
          exact ⟨ret_bool (by rw [← hE.out, inlG_at HX.out, HR.out]; rfl), hGv.trans gG⟩
        | true =>
          have hlv := inl1_lev HL.out
          refine region_T (fun w' => w'.cell? ⟨gb, 0, none⟩ = some (.int .i64 x.Start) ∧ w'.cell? ⟨gb, 1, none⟩ = some (.int .i64 x.End) ∧ w'.cell? ⟨gb, 2, none⟩ = some (.int .i64 x.Level) ∧ w'.cell? ⟨gb, 3, none⟩ = some (.int .i64 x.Line) ∧ w'.cell? ⟨gb, 4, none⟩ = some (.string x.Name)) 39 (by kernel_rfl) (And.intro (drew_keeps z0) (And.intro (drew_keeps z1) (And.intro (drew_keeps z2) (And.intro (drew_keeps z3) (drew_keeps z4))))) (fun hH => ?_)
          have hdr : Gro Y Y.drew := (Gro.refl _).drew
          clear z0 z1 z2 z3 z4
          generalize Y.drew = wx at hdr hH ⊢
          obtain ⟨z0, z1, z2, z3, z4⟩ := id hH
          refine AnyT.take (i := 0) (cs := [1, 3, 39]) rfl (by kernel_rfl) (by kernel_rfl) (by kernel_rfl) (by kernel_rfl) rfl (by kernel_rfl) (fun _ _ _ h => h) hH (by kernel_rfl) (by intro w hSw; (try dsimp only at hSw); go_simp; (try with_reducible rfl)) ?_
          try simp only [Act.put, List.setIfInBounds_toArray, List.set_cons_zero, List.set_cons_succ]
          refine AnyT.one (i := 1) (by kernel_rfl) rfl (fun K hK => ?_)
          go_simp
          go_at_call 326
          (with_reducible refine (inlineOk_i (x := x) bn).mono ?_); rw [HL.out]
          rintro e v1 ⟨rfl, hg1⟩
          have hgr1 := hdr.trans hg1
          have z0 := grow_cell hg1 z0
          have z1 := grow_cell hg1 z1
          have z2 := grow_cell hg1 z2
          have z3 := grow_cell hg1 z3
          have z4 := grow_cell hg1 z4
          refine hK.out _ _ (And.intro z0 (And.intro z1 (And.intro z2 (And.intro z3 z4)))) (fun hI => ?_)
          clear hK hH
          have hH := hI
          try simp only [Act.put, List.setIfInBounds_toArray, List.set_cons_zero, List.set_cons_succ]
          refine AnyT.take (i := 2) (cs := [3, 39]) rfl (by kernel_rfl) (by kernel_rfl) (by kernel_rfl) (by kernel_rfl) rfl (by kernel_rfl) (fun _ _ _ h => h) hH (by kernel_rfl) (by intro w hSw; (try dsimp only at hSw); go_simp; (try with_reducible rfl)) ?_
          try simp only [Act.put, List.setIfInBounds_toArray, List.set_cons_zero, List.set_cons_succ]
          refine AnyT.take (i := 3) (cs := [39]) rfl (by kernel_rfl) (by kernel_rfl) (by kernel_rfl) (by kernel_rfl) rfl (by kernel_rfl) (fun _ _ _ h => h) hH (by kernel_rfl) (by intro w hSw; (try dsimp only at hSw); go_simp; (try with_reducible rfl)) ?_
          try simp only [Act.put, List.setIfInBounds_toArray, List.set_cons_zero, List.set_cons_succ]
          refine AnyT.take (i := 4) (cs := [5, 6, 38, 39]) rfl (by kernel_rfl) (by kernel_rfl) (by kernel_rfl) (by kernel_rfl) rfl (by kernel_rfl) (fun _ _ _ h => h) hH (by kernel_rfl) (by intro w hSw; (try dsimp only at hSw); go_simp; (try with_reducible rfl)) ?_
          try simp only [Act.put, List.setIfInBounds_toArray, List.set_cons_zero, List.set_cons_succ]
          refine AnyT.take (i := 5) (cs := [6, 38, 39]) rfl (by kernel_rfl) (by kernel_rfl) (by kernel_rfl) (by kernel_rfl) rfl (by kernel_rfl) (fun _ _ _ h => h) hH (by kernel_rfl) (by intro w hSw; (try dsimp only at hSw); go_simp; (try with_reducible rfl)) ?_
          try simp only [Act.put, List.setIfInBounds_toArray, List.set_cons_zero, List.set_cons_succ]
          refine AnyT.take (i := 6) (cs := [38, 39]) rfl (by kernel_rfl) (by kernel_rfl) (by kernel_rfl) (by kernel_rfl) rfl (by kernel_rfl) (fun _ _ _ h => h) hH (by kernel_rfl) (by intro w hSw; (try dsimp only at hSw); go_simp; (try with_reducible rfl)) ?_
          try simp only [Act.put, List.setIfInBounds_toArray, List.set_cons_zero, List.set_cons_succ]
          refine AnyT.skip (i := 7) (cs := [10, 11, 12, 15, 16, 37, 38, 39]) rfl (by kernel_rfl) (by kernel_rfl) (by kernel_rfl) (by kernel_rfl) rfl (by kernel_rfl) (fun _ _ _ h => h) hH (by kernel_rfl) ?_
          try simp only [Act.put, List.setIfInBounds_toArray, List.set_cons_zero, List.set_cons_succ]
          refine AnyT.skip (i := 8) (cs := [9, 10, 11, 12, 15, 16, 37, 38, 39]) rfl (by kernel_rfl) (by kernel_rfl) (by kernel_rfl) (by kernel_rfl) rfl (by kernel_rfl) (fun _ _ _ h => h) hH (by kernel_rfl) ?_
          try simp only [Act.put, List.setIfInBounds_toArray, List.set_cons_zero, List.set_cons_succ]
          refine AnyT.skip (i := 9) (cs := [10, 11, 12, 15, 16, 37, 38, 39]) rfl (by kernel_rfl) (by kernel_rfl) (by kernel_rfl) (by kernel_rfl) rfl (by kernel_rfl) (fun _ _ _ h => h) hH (by kernel_rfl) ?_
          try simp only [Act.put, List.setIfInBounds_toArray, List.set_cons_zero, List.set_cons_succ]
          refine AnyT.skip (i := 10) (cs := [11, 12, 15, 16, 37, 38, 39]) rfl (by kernel_rfl) (by kernel_rfl) (by kernel_rfl) (by kernel_rfl) rfl (by kernel_rfl) (fun _ _ _ h => h) hH (by kernel_rfl) ?_
          try simp only [Act.put, List.setIfInBounds_toArray, List.set_cons_zero, List.set_cons_succ]
          refine AnyT.skip (i := 11) (cs := [12, 15, 16, 37, 38, 39]) rfl (by kernel_rfl) (by kernel_rfl) (by kernel_rfl) (by kernel_rfl) rfl (by kernel_rfl) (fun _ _ _ h => h) hH (by kernel_rfl) ?_
          try simp only [Act.put, List.setIfInBounds_toArray, List.set_cons_zero, List.set_cons_succ]
          refine AnyT.skip (i := 12) (cs := [15, 16, 37, 38, 39]) rfl (by kernel_rfl) (by kernel_rfl) (by kernel_rfl) (by kernel_rfl) rfl (by kernel_rfl) (fun _ _ _ h => h) hH (by kernel_rfl) ?_
          try simp only [Act.put, List.setIfInBounds_toArray, List.set_cons_zero, List.set_cons_succ]
          refine AnyT.skip (i := 13) (cs := [14, 15, 16, 37, 38, 39]) rfl (by kernel_rfl) (by kernel_rfl) (by kernel_rfl) (by kernel_rfl) rfl (by kernel_rfl) (fun _ _ _ h => h) hH (by kernel_rfl) ?_
          try simp only [Act.put, List.setIfInBounds_toArray, List.set_cons_zero, List.set_cons_succ]
          refine AnyT.skip (i := 14) (cs := [15, 16, 37, 38, 39]) rfl (by kernel_rfl) (by kernel_rfl) (by kernel_rfl) (by kernel_rfl) rfl (by kernel_rfl) (fun _ _ _ h => h) hH (by kernel_rfl) ?_
          try simp only [Act.put, List.setIfInBounds_toArray, List.set_cons_zero, List.set_cons_succ]
          refine AnyT.skip (i := 15) (cs := [16, 37, 38, 39]) rfl (by kernel_rfl) (by kernel_rfl) (by kernel_rfl) (by kernel_rfl) rfl (by kernel_rfl) (fun _ _ _ h => h) hH (by kernel_rfl) ?_
          try simp only [Act.put, List.setIfInBounds_toArray, List.set_cons_zero, List.set_cons_succ]
          refine AnyT.skip (i := 16) (cs := [37, 38, 39]) rfl (by kernel_rfl) (by kernel_rfl) (by kernel_rfl) (by kernel_rfl) rfl (by kernel_rfl) (fun _ _ _ h => h) hH (by kernel_rfl) ?_
          try simp only [Act.put, List.setIfInBounds_toArray, List.set_cons_zero, List.set_cons_succ]
          refine AnyT.skip (i := 17) (cs := [20, 21, 22, 25, 26, 36, 37, 38, 39]) rfl (by kernel_rfl) (by kernel_rfl) (by kernel_rfl) (by kernel_rfl) rfl (by kernel_rfl) (fun _ _ _ h => h) hH (by kernel_rfl) ?_
          try simp only [Act.put, List.setIfInBounds_toArray, List.set_cons_zero, List.set_cons_succ]
          refine AnyT.skip (i := 18) (cs := [19, 20, 21, 22, 25, 26, 36, 37, 38, 39]) rfl (by kernel_rfl) (by kernel_rfl) (by kernel_rfl) (by kernel_rfl) rfl (by kernel_rfl) (fun _ _ _ h => h) hH (by kernel_rfl) ?_
          try simp only [Act.put, List.setIfInBounds_toArray, List.set_cons_zero, List.set_cons_succ]
          refine AnyT.skip (i := 19) (cs := [20, 21, 22, 25, 26, 36, 37, 38, 39]) rfl (by kernel_rfl) (by kernel_rfl) (by kernel_rfl) (by kernel_rfl) rfl (by kernel_rfl) (fun _ _ _ h => h) hH (by kernel_rfl) ?_
          try simp only [Act.put, List.setIfInBounds_toArray, List.set_cons_zero, List.set_cons_succ]
          refine AnyT.skip (i := 20) (cs := [21, 22, 25, 26, 36, 37, 38, 39]) rfl (by kernel_rfl) (by kernel_rfl) (by kernel_rfl) (by kernel_rfl) rfl (by kernel_rfl) (fun _ _ _ h => h) hH (by kernel_rfl) ?_
          try simp only [Act.put, List.setIfInBounds_toArray, List.set_cons_zero, List.set_cons_succ]
          refine AnyT.skip (i := 21) (cs := [22, 25, 26, 36, 37, 38, 39]) rfl (by kernel_rfl) (by kernel_rfl) (by kernel_rfl) (by kernel_rfl) rfl (by kernel_rfl) (fun _ _ _ h => h) hH (by kernel_rfl) ?_
          try simp only [Act.put, List.setIfInBounds_toArray, List.set_cons_zero, List.set_cons_succ]
          refine AnyT.skip (i := 22) (cs := [25, 26, 36, 37, 38, 39]) rfl (by kernel_rfl) (by kernel_rfl) (by kernel_rfl) (by kernel_rfl) rfl (by kernel_rfl) (fun _ _ _ h => h) hH (by kernel_rfl) ?_
          try simp only [Act.put, List.setIfInBounds_toArray, List.set_cons_zero, List.set_cons_succ]
          refine AnyT.skip (i := 23) (cs := [24, 25, 26, 36, 37, 38, 39]) rfl (by kernel_rfl) (by kernel_rfl) (by kernel_rfl) (by kernel_rfl) rfl (by kernel_rfl) (fun _ _ _ h => h) hH (by kernel_rfl) ?_
          try simp only [Act.put, List.setIfInBounds_toArray, List.set_cons_zero, List.set_cons_succ]
          refine AnyT.skip (i := 24) (cs := [25, 26, 36, 37, 38, 39]) rfl (by kernel_rfl) (by kernel_rfl) (by kernel_rfl) (by kernel_rfl) rfl (by kernel_rfl) (fun _ _ _ h => h) hH (by kernel_rfl) ?_
          try simp only [Act.put, List.setIfInBounds_toArray, List.set_cons_zero, List.set_cons_succ]
          refine AnyT.skip (i := 25) (cs := [26, 36, 37, 38, 39]) rfl (by kernel_rfl) (by kernel_rfl) (by kernel_rfl) (by kernel_rfl) rfl (by kernel_rfl) (fun _ _ _ h => h) hH (by kernel_rfl) ?_
          try simp only [Act.put, List.setIfInBounds_toArray, List.set_cons_zero, List.set_cons_succ]
          refine AnyT.skip (i := 26) (cs := [36, 37, 38, 39]) rfl (by kernel_rfl) (by kernel_rfl) (by kernel_rfl) (by kernel_rfl) rfl (by kernel_rfl) (fun _ _ _ h => h) hH (by kernel_rfl) ?_
          try simp only [Act.put, List.setIfInBounds_toArray, List.set_cons_zero, List.set_cons_succ]
          refine AnyT.skip (i := 27) (cs := [28, 35, 36, 37, 38, 39]) rfl (by kernel_rfl) (by kernel_rfl) (by kernel_rfl) (by kernel_rfl) rfl (by kernel_rfl) (fun _ _ _ h => h) hH (by kernel_rfl) ?_
          try simp only [Act.put, List.setIfInBounds_toArray, List.set_cons_zero, List.set_cons_succ]
          refine AnyT.skip (i := 28) (cs := [35, 36, 37, 38, 39]) rfl (by kernel_rfl) (by kernel_rfl) (by kernel_rfl) (by kernel_rfl) rfl (by kernel_rfl) (fun _ _ _ h => h) hH (by kernel_rfl) ?_
          try simp only [Act.put, List.setIfInBounds_toArray, List.set_cons_zero, List.set_cons_succ]
          refine AnyT.skip (i := 29) (cs := [32, 33, 34, 35, 36, 37, 38, 39]) rfl (by kernel_rfl) (by kernel_rfl) (by kernel_rfl) (by kernel_rfl) rfl (by kernel_rfl) (fun _ _ _ h => h) hH (by kernel_rfl) ?_
          try simp only [Act.put, List.setIfInBounds_toArray, List.set_cons_zero, List.set_cons_succ]
          refine AnyT.skip (i := 30) (cs := [31, 32, 33, 34, 35, 36, 37, 38, 39]) rfl (by kernel_rfl) (by kernel_rfl) (by kernel_rfl) (by kernel_rfl) rfl (by kernel_rfl) (fun _ _ _ h => h) hH (by kernel_rfl) ?_
          try simp only [Act.put, List.setIfInBounds_toArray, List.set_cons_zero, List.set_cons_succ]
          refine AnyT.skip (i := 31) (cs := [32, 33, 34, 35, 36, 37, 38, 39]) rfl (by kernel_rfl) (by kernel_rfl) (by kernel_rfl) (by kernel_rfl) rfl (by kernel_rfl) (fun _ _ _ h => h) hH (by kernel_rfl) ?_
          try simp only [Act.put, List.setIfInBounds_toArray, List.set_cons_zero, List.set_cons_succ]
          refine AnyT.skip (i := 32) (cs := [33, 34, 35, 36, 37, 38, 39]) rfl (by kernel_rfl) (by kernel_rfl) (by kernel_rfl) (by kernel_rfl) rfl (by kernel_rfl) (fun _ _ _ h => h) hH (by kernel_rfl) ?_
          try simp only [Act.put, List.setIfInBounds_toArray, List.set_cons_zero, List.set_cons_succ]
          refine AnyT.skip (i := 33) (cs := [34, 35, 36, 37, 38, 39]) rfl (by kernel_rfl) (by kernel_rfl) (by kernel_rfl) (by kernel_rfl) rfl (by kernel_rfl) (fun _ _ _ h => h) hH (by kernel_rfl) ?_
          try simp only [Act.put, List.setIfInBounds_toArray, List.set_cons_zero, List.set_cons_succ]
          refine AnyT.skip (i := 34) (cs := [35, 36, 37, 38, 39]) rfl (by kernel_rfl) (by kernel_rfl) (by kernel_rfl) (by kernel_rfl) rfl (by kernel_rfl) (fun _ _ _ h => h) hH (by kernel_rfl) ?_
          try simp only [Act.put, List.setIfInBounds_toArray, List.set_cons_zero, List.set_cons_succ]
          refine AnyT.skip (i := 35) (cs := [36, 37, 38, 39]) rfl (by kernel_rfl) (by kernel_rfl) (by kernel_rfl) (by kernel_rfl) rfl (by kernel_rfl) (fun _ _ _ h => h) hH (by kernel_rfl) ?_
          try simp only [Act.put, List.setIfInBounds_toArray, List.set_cons_zero, List.set_cons_succ]
          refine AnyT.skip (i := 36) (cs := [37, 38, 39]) rfl (by kernel_rfl) (by kernel_rfl) (by kernel_rfl) (by kernel_rfl) rfl (by kernel_rfl) (fun _ _ _ h => h) hH (by kernel_rfl) ?_
          try simp only [Act.put, List.setIfInBounds_toArray, List.set_cons_zero, List.set_cons_succ]
          refine AnyT.skip (i := 37) (cs := [38, 39]) rfl (by kernel_rfl) (by kernel_rfl) (by kernel_rfl) (by kernel_rfl) rfl (by kernel_rfl) (fun _ _ _ h => h) hH (by kernel_rfl) ?_
          try simp only [Act.put, List.setIfInBounds_toArray, List.set_cons_zero, List.set_cons_succ]
          refine AnyT.take (i := 38) (cs := [39]) rfl (by kernel_rfl) (by kernel_rfl) (by kernel_rfl) (by kernel_rfl) rfl (by kernel_rfl) (fun _ _ _ h => h) hH (by kernel_rfl) (by intro w hSw; (try dsimp only at hSw); go_simp; (try with_reducible rfl)) ?_
          try simp only [Act.put, List.setIfInBounds_toArray, List.set_cons_zero, List.set_cons_succ]
          refine AnyT.last (by kernel_rfl) rfl (by kernel_rfl) (fun K hK => ?_)
          go_simp
          refine hK.out _ _ ?_
          clear hK
          try simp only [Act.put, List.setIfInBounds_toArray, List.set_cons_zero, List.set_cons_succ]
          have hGv := hG0.trans hgr1
          have hgb9 : gb < v1.heap.size := by have := hgr1.size; omega
          have HK := Lib.hid (inlK_zero (all := rs) HL.out)
          by_cases a5 : x.Level = 0
          · have a5b : (x.Level == 0) = true := by simp [a5]
            clear a5
            rw [a5b] at HK
            go_wp2_with (fail)
            go_loopw [5, 62] (fun v a wr => ∃ (i : Nat) (b : Bool), v = .bool b ∧ a = .int .i64 i ∧ i ≤ 0 ∧ Hid (Gro v1 wr) ∧ Hid (inlAny x b ((rs.take 0).drop i) = inlK rs 0 x)) (fun _ a _ => 0 - (intOf a).toNat)
            case atStart => exact ⟨0, true, rfl, rfl, Nat.zero_le _, Lib.hid gG, Lib.hid (by rw [HK.out]; rfl)⟩
            case round =>
              obtain ⟨i, b, rfl, rfl, hi, hG2, hA2⟩ := hrel
              obtain ⟨os2, d2, rfl⟩ := hG2.out
              clear hG2
              have z0 := gro_keeps z0 os2 d2
              have z1 := gro_keeps z1 os2 d2
              have z2 := gro_keeps z2 os2 d2
              have z3 := gro_keeps z3 os2 d2
              have z4 := gro_keeps z4 os2 d2
              by_cases hlt2 : i < 0
              · exact absurd hlt2 (Nat.not_lt_zero _)
              · have hii : ¬ ((i : Int) < ((0 : Nat) : Int)) := by omega
                have hA3 := hA2.out
                rw [inlAny_end (by omega)] at hA3
                have HZ := Lib.hid hA3
                clear hA3
                cases b with
                | true =>
                  go_wp2_with (fail)
                  go_roundw
                  case measure => (simp [intOf]; try omega)
                  case rel => exact ⟨0 + 1, by go_num, by omega, Lib.hid (hGv.trans gG), Lib.hid (by rw [← hE.out, inlG_at HX.out, ← HZ.out]; rfl)⟩
                | false =>
                  go_wp2_with (fail)
                  go_ret
                  exact ⟨ret_bool (by rw [← hE.out, inlG_at HX.out, ← HZ.out]; rfl), hGv.trans gG⟩
          · have a5b : (x.Level == 0) = false := by simp [a5]
            clear a5
            rw [a5b] at HK
            go_wp2_with (fail)
            go_loopw [5, 62] (fun v a wr => ∃ (i : Nat) (b : Bool), v = .bool b ∧ a = .int .i64 i ∧ i ≤ 0 ∧ Hid (Gro v1 wr) ∧ Hid (inlAny x b ((rs.take 0).drop i) = inlK rs 0 x)) (fun _ a _ => 0 - (intOf a).toNat)
            case atStart => exact ⟨0, false, rfl, rfl, Nat.zero_le _, Lib.hid gG, Lib.hid (by rw [HK.out]; rfl)⟩
            case round =>
              obtain ⟨i, b, rfl, rfl, hi, hG2, hA2⟩ := hrel
              obtain ⟨os2, d2, rfl⟩ := hG2.out
              clear hG2
              have z0 := gro_keeps z0 os2 d2
              have z1 := gro_keeps z1 os2 d2
              have z2 := gro_keeps z2 os2 d2
              have z3 := gro_keeps z3 os2 d2
              have z4 := gro_keeps z4 os2 d2
              by_cases hlt2 : i < 0
              · exact absurd hlt2 (Nat.not_lt_zero _)
              · have hii : ¬ ((i : Int) < ((0 : Nat) : Int)) := by omega
                have hA3 := hA2.out
                rw [inlAny_end (by omega)] at hA3
                have HZ := Lib.hid hA3
                clear hA3
                cases b with
                | true =>
                  go_wp2_with (fail)
                  go_roundw
                  case measure => (simp [intOf]; try omega)
                  case rel => exact ⟨0 + 1, by go_num, by omega, Lib.hid (hGv.trans gG), Lib.hid (by rw [← hE.out, inlG_at HX.out, ← HZ.out]; rfl)⟩
                | false =>
                  go_wp2_with (fail)
                  go_ret
                  exact ⟨ret_bool (by rw [← hE.out, inlG_at HX.out, ← HZ.out]; rfl), hGv.trans gG⟩
      | succ j =>
        obtain ⟨gq, offq, q, hAq, _, hqk, u0, u1, u2, u3, u4, _⟩ := atInline hx (k := j) (by omega)
        injection hAq with hAq
        injection hAq with hq1 hq2
        subst hq1 hq2
        have HQ := Lib.hid hqk
        clear hqk u0 u3 u4
        have hz : (0 : Int) < (j : Int) + 1 := by omega
        have hw1 : IntKind.i64.wrap ((j : Int) + 1 - 1) = (j : Int) := by rw [show (j : Int) + 1 - 1 = (j : Int) from by omega]; exact IntWalk.i64_in _ ⟨by omega, by omega⟩
        have hw0 : IntKind.i64.wrap (j : Int) = (j : Int) := IntWalk.i64_in _ ⟨by omega, by omega⟩
        have hj0 : (0 : Int) ≤ (j : Int) := by omega
        have hji : (j : Int) < (rs.length : Int) := by omega
        go_upto_region 4 with (fail)
        have hG0 : Gro w ((gro w os d).alloc (.cells #[.int .i64 x.Start, .int .i64 x.End, .int .i64 x.Level, .int .i64 x.Line, .string x.Name] 260)) := gG
        have eb := heap_alloc_new (gro w os d) (.cells #[.int .i64 x.Start, .int .i64 x.End, .int .i64 x.Level, .int .i64 x.Line, .string x.Name] 260)
        obtain ⟨gb, hgb2⟩ : ∃ g, w.heap.size + os.size = g := ⟨_, rfl⟩
        rw [show (gro w os d).heap.size = w.heap.size + os.size from by simp, hgb2] at eb
        try rw [hgb2]
        clear x0 x1 x2 x3 x4
        generalize (gro w os d).alloc (.cells #[.int .i64 x.Start, .int .i64 x.End, .int .i64 x.Level, .int .i64 x.Line, .string x.Name] 260) = Y at hG0 eb ⊢
        obtain ⟨z0, z1, z2, z3, z4, zf, zl⟩ := row5 eb
        have u1 := grow_cell hG0 u1
        have u2 := grow_cell hG0 u2
        obtain ⟨b1, hb1⟩ : ∃ b, inl1 x = b := ⟨_, rfl⟩
        have HL := Lib.hid hb1
        clear hb1
        cases b1 with
        | false =>
          have HR := Lib.hid (show inlK rs (j + 1) x = false from inlK_one HL.out)
          refine region_T (fun w' => w'.cell? ⟨gb, 0, none⟩ = some (.int .i64 x.Start) ∧ w'.cell? ⟨gb, 1, none⟩ = some (.int .i64 x.End) ∧ w'.cell? ⟨gb, 2, none⟩ = some (.int .i64 x.Level) ∧ w'.cell? ⟨gb, 3, none⟩ = some (.int .i64 x.Line) ∧ w'.cell? ⟨gb, 4, none⟩ = some (.string x.Name) ∧ w'.cell? ⟨g, off + j * 5 + 1, none⟩ = some (.int .i64 q.End) ∧ w'.cell? ⟨g, off + j * 5 + 2, none⟩ = some (.int .i64 q.Level)) 39 (by kernel_rfl) (And.intro (drew_keeps z0) (And.intro (drew_keeps z1) (And.intro (drew_keeps z2) (And.intro (drew_keeps z3) (And.intro (drew_keeps z4) (And.intro (drew_keeps u1) (drew_keeps u2))))))) (fun hH => ?_)
          have hdr : Gro Y Y.drew := (Gro.refl _).drew
          clear z0 z1 z2 z3 z4 u1 u2
          generalize Y.drew = wx at hdr hH ⊢
          obtain ⟨z0, z1, z2, z3, z4, u1, u2⟩ := id hH
          refine AnyT.take (i := 0) (cs := [1, 3, 39]) rfl (by kernel_rfl) (by kernel_rfl) (by kernel_rfl) (by kernel_rfl) rfl (by kernel_rfl) (fun _ _ _ h => h) hH (by kernel_rfl) (by intro w hSw; (try dsimp only at hSw); go_simp; (try with_reducible rfl)) ?_
          try simp only [Act.put, List.setIfInBounds_toArray, List.set_cons_zero, List.set_cons_succ]
          refine AnyT.one (i := 1) (by kernel_rfl) rfl (fun K hK => ?_)
          go_simp
          go_at_call 326
          (with_reducible refine (inlineOk_i (x := x) bn).mono ?_); rw [HL.out]
          rintro e v1 ⟨rfl, hg1⟩
          have hgr1 := hdr.trans hg1
          have z0 := grow_cell hg1 z0
          have z1 := grow_cell hg1 z1
          have z2 := grow_cell hg1 z2
          have z3 := grow_cell hg1 z3
          have z4 := grow_cell hg1 z4
          have u1 := grow_cell hg1 u1
          have u2 := grow_cell hg1 u2
          refine hK.out _ _ (And.intro z0 (And.intro z1 (And.intro z2 (And.intro z3 (And.intro z4 (And.intro u1 u2)))))) (fun hI => ?_)
          clear hK hH
          have hH := hI
          try simp only [Act.put, List.setIfInBounds_toArray, List.set_cons_zero, List.set_cons_succ]
          refine AnyT.take (i := 2) (cs := [3, 39]) rfl (by kernel_rfl) (by kernel_rfl) (by kernel_rfl) (by kernel_rfl) rfl (by kernel_rfl) (fun _ _ _ h => h) hH (by kernel_rfl) (by intro w hSw; (try dsimp only at hSw); go_simp; (try with_reducible rfl)) ?_
          try simp only [Act.put, List.setIfInBounds_toArray, List.set_cons_zero, List.set_cons_succ]
          refine AnyT.take (i := 3) (cs := [39]) rfl (by kernel_rfl) (by kernel_rfl) (by kernel_rfl) (by kernel_rfl) rfl (by kernel_rfl) (fun _ _ _ h => h) hH (by kernel_rfl) (by intro w hSw; (try dsimp only at hSw); go_simp; (try with_reducible rfl)) ?_
          try simp only [Act.put, List.setIfInBounds_toArray, List.set_cons_zero, List.set_cons_succ]
          refine AnyT.skip (i := 4) (cs := [5, 6, 38, 39]) rfl (by kernel_rfl) (by kernel_rfl) (by kernel_rfl) (by kernel_rfl) rfl (by kernel_rfl) (fun _ _ _ h => h) hH (by kernel_rfl) ?_
          try simp only [Act.put, List.setIfInBounds_toArray, List.set_cons_zero, List.set_cons_succ]
          refine AnyT.skip (i := 5) (cs := [6, 38, 39]) rfl (by kernel_rfl) (by kernel_rfl) (by kernel_rfl) (by kernel_rfl) rfl (by kernel_rfl) (fun _ _ _ h => h) hH (by kernel_rfl) ?_
          try simp only [Act.put, List.setIfInBounds_toArray, List.set_cons_zero, List.set_cons_succ]
          refine AnyT.skip (i := 6) (cs := [38, 39]) rfl (by kernel_rfl) (by kernel_rfl) (by kernel_rfl) (by kernel_rfl) rfl (by kernel_rfl) (fun _ _ _ h => h) hH (by kernel_rfl) ?_
          try simp only [Act.put, List.setIfInBounds_toArray, List.set_cons_zero, List.set_cons_succ]
          refine AnyT.skip (i := 7) (cs := [10, 11, 12, 15, 16, 37, 38, 39]) rfl (by kernel_rfl) (by kernel_rfl) (by kernel_rfl) (by kernel_rfl) rfl (by kernel_rfl) (fun _ _ _ h => h) hH (by kernel_rfl) ?_
          try simp only [Act.put, List.setIfInBounds_toArray, List.set_cons_zero, List.set_cons_succ]
          refine AnyT.skip (i := 8) (cs := [9, 10, 11, 12, 15, 16, 37, 38, 39]) rfl (by kernel_rfl) (by kernel_rfl) (by kernel_rfl) (by kernel_rfl) rfl (by kernel_rfl) (fun _ _ _ h => h) hH (by kernel_rfl) ?_
          try simp only [Act.put, List.setIfInBounds_toArray, List.set_cons_zero, List.set_cons_succ]
          refine AnyT.skip (i := 9) (cs := [10, 11, 12, 15, 16, 37, 38, 39]) rfl (by kernel_rfl) (by kernel_rfl) (by kernel_rfl) (by kernel_rfl) rfl (by kernel_rfl) (fun _ _ _ h => h) hH (by kernel_rfl) ?_
          try simp only [Act.put, List.setIfInBounds_toArray, List.set_cons_zero, List.set_cons_succ]
          refine AnyT.skip (i := 10) (cs := [11, 12, 15, 16, 37, 38, 39]) rfl (by kernel_rfl) (by kernel_rfl) (by kernel_rfl) (by kernel_rfl) rfl (by kernel_rfl) (fun _ _ _ h => h) hH (by kernel_rfl) ?_
          try simp only [Act.put, List.setIfInBounds_toArray, List.set_cons_zero, List.set_cons_succ]
          refine AnyT.skip (i := 11) (cs := [12, 15, 16, 37, 38, 39]) rfl (by kernel_rfl) (by kernel_rfl) (by kernel_rfl) (by kernel_rfl) rfl (by kernel_rfl) (fun _ _ _ h => h) hH (by kernel_rfl) ?_
          try simp only [Act.put, List.setIfInBounds_toArray, List.set_cons_zero, List.set_cons_succ]
          refine AnyT.skip (i := 12) (cs := [15, 16, 37, 38, 39]) rfl (by kernel_rfl) (by kernel_rfl) (by kernel_rfl) (by kernel_rfl) rfl (by kernel_rfl) (fun _ _ _ h => h) hH (by kernel_rfl) ?_
          try simp only [Act.put, List.setIfInBounds_toArray, List.set_cons_zero, List.set_cons_succ]
          refine AnyT.skip (i := 13) (cs := [14, 15, 16, 37, 38, 39]) rfl (by kernel_rfl) (by kernel_rfl) (by kernel_rfl) (by kernel_rfl) rfl (by kernel_rfl) (fun _ _ _ h => h) hH (by kernel_rfl) ?_
          try simp only [Act.put, List.setIfInBounds_toArray, List.set_cons_zero, List.set_cons_succ]
          refine AnyT.skip (i := 14) (cs := [15, 16, 37, 38, 39]) rfl (by kernel_rfl) (by kernel_rfl) (by kernel_rfl) (by kernel_rfl) rfl (by kernel_rfl) (fun _ _ _ h => h) hH (by kernel_rfl) ?_
          try simp only [Act.put, List.setIfInBounds_toArray, List.set_cons_zero, List.set_cons_succ]
          refine AnyT.skip (i := 15) (cs := [16, 37, 38, 39]) rfl (by kernel_rfl) (by kernel_rfl) (by kernel_rfl) (by kernel_rfl) rfl (by kernel_rfl) (fun _ _ _ h => h) hH (by kernel_rfl) ?_
          try simp only [Act.put, List.setIfInBounds_toArray, List.set_cons_zero, List.set_cons_succ]
          refine AnyT.skip (i := 16) (cs := [37, 38, 39]) rfl (by kernel_rfl) (by kernel_rfl) (by kernel_rfl) (by kernel_rfl) rfl (by kernel_rfl) (fun _ _ _ h => h) hH (by kernel_rfl) ?_
          try simp only [Act.put, List.setIfInBounds_toArray, List.set_cons_zero, List.set_cons_succ]
          refine AnyT.skip (i := 17) (cs := [20, 21, 22, 25, 26, 36, 37, 38, 39]) rfl (by kernel_rfl) (by kernel_rfl) (by kernel_rfl) (by kernel_rfl) rfl (by kernel_rfl) (fun _ _ _ h => h) hH (by kernel_rfl) ?_
          try simp only [Act.put, List.setIfInBounds_toArray, List.set_cons_zero, List.set_cons_succ]
          refine AnyT.skip (i := 18) (cs := [19, 20, 21, 22, 25, 26, 36, 37, 38, 39]) rfl (by kernel_rfl) (by kernel_rfl) (by kernel_rfl) (by kernel_rfl) rfl (by kernel_rfl) (fun _ _ _ h => h) hH (by kernel_rfl) ?_
          try simp only [Act.put, List.setIfInBounds_toArray, List.set_cons_zero, List.set_cons_succ]
          refine AnyT.skip (i := 19) (cs := [20, 21, 22, 25, 26, 36, 37, 38, 39]) rfl (by kernel_rfl) (by kernel_rfl) (by kernel_rfl) (by kernel_rfl) rfl (by kernel_rfl) (fun _ _ _ h => h) hH (by kernel_rfl) ?_
          try simp only [Act.put, List.setIfInBounds_toArray, List.set_cons_zero, List.set_cons_succ]
          refine AnyT.skip (i := 20) (cs := [21, 22, 25, 26, 36, 37, 38, 39]) rfl (by kernel_rfl) (by kernel_rfl) (by kernel_rfl) (by kernel_rfl) rfl (by kernel_rfl) (fun _ _ _ h => h) hH (by kernel_rfl) ?_
          try simp only [Act.put, List.setIfInBounds_toArray, List.set_cons_zero, List.set_cons_succ]
          refine AnyT.skip (i := 21) (cs := [22, 25, 26, 36, 37, 38, 39]) rfl (by kernel_rfl) (by kernel_rfl) (by kernel_rfl) (by kernel_rfl) rfl (by kernel_rfl) (fun _ _ _ h => h) hH (by kernel_rfl) ?_
          try simp only [Act.put, List.setIfInBounds_toArray, List.set_cons_zero, List.set_cons_succ]
          refine AnyT.skip (i := 22) (cs := [25, 26, 36, 37, 38, 39]) rfl (by kernel_rfl) (by kernel_rfl) (by kernel_rfl) (by kernel_rfl) rfl (by kernel_rfl) (fun _ _ _ h => h) hH (by kernel_rfl) ?_
          try simp only [Act.put, List.setIfInBounds_toArray, List.set_cons_zero, List.set_cons_succ]
          refine AnyT.skip (i := 23) (cs := [24, 25, 26, 36, 37, 38, 39]) rfl (by kernel_rfl) (by kernel_rfl) (by kernel_rfl) (by kernel_rfl) rfl (by kernel_rfl) (fun _ _ _ h => h) hH (by kernel_rfl) ?_
          try simp only [Act.put, List.setIfInBounds_toArray, List.set_cons_zero, List.set_cons_succ]
          refine AnyT.skip (i := 24) (cs := [25, 26, 36, 37, 38, 39]) rfl (by kernel_rfl) (by kernel_rfl) (by kernel_rfl) (by kernel_rfl) rfl (by kernel_rfl) (fun _ _ _ h => h) hH (by kernel_rfl) ?_
          try simp only [Act.put, List.setIfInBounds_toArray, List.set_cons_zero, List.set_cons_succ]
          refine AnyT.skip (i := 25) (cs := [26, 36, 37, 38, 39]) rfl (by kernel_rfl) (by kernel_rfl) (by kernel_rfl) (by kernel_rfl) rfl (by kernel_rfl) (fun _ _ _ h => h) hH (by kernel_rfl) ?_
          try simp only [Act.put, List.setIfInBounds_toArray, List.set_cons_zero, List.set_cons_succ]
          refine AnyT.skip (i := 26) (cs := [36, 37, 38, 39]) rfl (by kernel_rfl) (by kernel_rfl) (by kernel_rfl) (by kernel_rfl) rfl (by kernel_rfl) (fun _ _ _ h => h) hH (by kernel_rfl) ?_
          try simp only [Act.put, List.setIfInBounds_toArray, List.set_cons_zero, List.set_cons_succ]
          refine AnyT.skip (i := 27) (cs := [28, 35, 36, 37, 38, 39]) rfl (by kernel_rfl) (by kernel_rfl) (by kernel_rfl) (by kernel_rfl) rfl (by kernel_rfl) (fun _ _ _ h => h) hH (by kernel_rfl) ?_
          try simp only [Act.put, List.setIfInBounds_toArray, List.set_cons_zero, List.set_cons_succ]
          refine AnyT.skip (i := 28) (cs := [35, 36, 37, 38, 39]) rfl (by kernel_rfl) (by kernel_rfl) (by kernel_rfl) (by kernel_rfl) rfl (by kernel_rfl) (fun _ _ _ h => h) hH (by kernel_rfl) ?_
          try simp only [Act.put, List.setIfInBounds_toArray, List.set_cons_zero, List.set_cons_succ]
          refine AnyT.skip (i := 29) (cs := [32, 33, 34, 35, 36, 37, 38, 39]) rfl (by kernel_rfl) (by kernel_rfl) (by kernel_rfl) (by kernel_rfl) rfl (by kernel_rfl) (fun _ _ _ h => h) hH (by kernel_rfl) ?_
          try simp only [Act.put, List.setIfInBounds_toArray, List.set_cons_zero, List.set_cons_succ]
          refine AnyT.skip (i := 30) (cs := [31, 32, 33, 34, 35, 36, 37, 38, 39]) rfl (by kernel_rfl) (by kernel_rfl) (by kernel_rfl) (by kernel_rfl) rfl (by kernel_rfl) (fun _ _ _ h => h) hH (by kernel_rfl) ?_
          try simp only [Act.put, List.setIfInBounds_toArray, List.set_cons_zero, List.set_cons_succ]
          refine AnyT.skip (i := 31) (cs := [32, 33, 34, 35, 36, 37, 38, 39]) rfl (by kernel_rfl) (by kernel_rfl) (by kernel_rfl) (by kernel_rfl) rfl (by kernel_rfl) (fun _ _ _ h => h) hH (by kernel_rfl) ?_
          try simp only [Act.put, List.setIfInBounds_toArray, List.set_cons_zero, List.set_cons_succ]
          refine AnyT.skip (i := 32) (cs := [33, 34, 35, 36, 37, 38, 39]) rfl (by kernel_rfl) (by kernel_rfl) (by kernel_rfl) (by kernel_rfl) rfl (by kernel_rfl) (fun _ _ _ h => h) hH (by kernel_rfl) ?_
          try simp only [Act.put, List.setIfInBounds_toArray, List.set_cons_zero, List.set_cons_succ]
          refine AnyT.skip (i := 33) (cs := [34, 35, 36, 37, 38, 39]) rfl (by kernel_rfl) (by kernel_rfl) (by kernel_rfl) (by kernel_rfl) rfl (by kernel_rfl) (fun _ _ _ h => h) hH (by kernel_rfl) ?_
          try simp only [Act.put, List.setIfInBounds_toArray, List.set_cons_zero, List.set_cons_succ]
          refine AnyT.skip (i := 34) (cs := [35, 36, 37, 38, 39]) rfl (by kernel_rfl) (by kernel_rfl) (by kernel_rfl) (by kernel_rfl) rfl (by kernel_rfl) (fun _ _ _ h => h) hH (by kernel_rfl) ?_
          try simp only [Act.put, List.setIfInBounds_toArray, List.set_cons_zero, List.set_cons_succ]
          refine AnyT.skip (i := 35) (cs := [36, 37, 38, 39]) rfl (by kernel_rfl) (by kernel_rfl) (by kernel_rfl) (by kernel_rfl) rfl (by kernel_rfl) (fun _ _ _ h => h) hH (by kernel_rfl) ?_
          try simp only [Act.put, List.setIfInBounds_toArray, List.set_cons_zero, List.set_cons_succ]
          refine AnyT.skip (i := 36) (cs := [37, 38, 39]) rfl (by kernel_rfl) (by kernel_rfl) (by kernel_rfl) (by kernel_rfl) rfl (by kernel_rfl) (fun _ _ _ h => h) hH (by kernel_rfl) ?_
          try simp only [Act.put, List.setIfInBounds_toArray, List.set_cons_zero, List.set_cons_succ]
          refine AnyT.skip (i := 37) (cs := [38, 39]) rfl (by kernel_rfl) (by kernel_rfl) (by kernel_rfl) (by kernel_rfl) rfl (by kernel_rfl) (fun _ _ _ h => h) hH (by kernel_rfl) ?_
          try simp only [Act.put, List.setIfInBounds_toArray, List.set_cons_zero, List.set_cons_succ]
          refine AnyT.skip (i := 38) (cs := [39]) rfl (by kernel_rfl) (by kernel_rfl) (by kernel_rfl) (by kernel_rfl) rfl (by kernel_rfl) (fun _ _ _ h => h) hH (by kernel_rfl) ?_
          try simp only [Act.put, List.setIfInBounds_toArray, List.set_cons_zero, List.set_cons_succ]
          refine AnyT.last (by kernel_rfl) rfl (by kernel_rfl) (fun K hK => ?_)
          go_simp
          refine hK.out _ _ ?_
          clear hK
          try simp only [Act.put, List.setIfInBounds_toArray, List.set_cons_zero, List.set_cons_succ]
          have hGv := hG0.trans hgr1
          have hgb9 : gb < v1.heap.size := by have := hgr1.size; omega
          go_wp2_with (fail)
          go_ret
          exact ⟨ret_bool (by rw [← hE.out, inlG_at HX.out, HR.out]; rfl), hGv.trans gG⟩
        | true =>
          have hlv := inl1_lev HL.out
          by_cases a1 : x.Level < q.Level
          · have a1b : decide (x.Level < q.Level) = true := decide_eq_true a1
            have HR := Lib.hid (show inlK rs (j + 1) x = false from inlK_bad HQ.out (by unfold inlBad; rw [a1b]; rfl))
            refine region_T (fun w' => w'.cell? ⟨gb, 0, none⟩ = some (.int .i64 x.Start) ∧ w'.cell? ⟨gb, 1, none⟩ = some (.int .i64 x.End) ∧ w'.cell? ⟨gb, 2, none⟩ = some (.int .i64 x.Level) ∧ w'.cell? ⟨gb, 3, none⟩ = some (.int .i64 x.Line) ∧ w'.cell? ⟨gb, 4, none⟩ = some (.string x.Name) ∧ w'.cell? ⟨g, off + j * 5 + 1, none⟩ = some (.int .i64 q.End) ∧ w'.cell? ⟨g, off + j * 5 + 2, none⟩ = some (.int .i64 q.Level)) 39 (by kernel_rfl) (And.intro (drew_keeps z0) (And.intro (drew_keeps z1) (And.intro (drew_keeps z2) (And.intro (drew_keeps z3) (And.intro (drew_keeps z4) (And.intro (drew_keeps u1) (drew_keeps u2))))))) (fun hH => ?_)
            have hdr : Gro Y Y.drew := (Gro.refl _).drew
            clear z0 z1 z2 z3 z4 u1 u2
            generalize Y.drew = wx at hdr hH ⊢
            obtain ⟨z0, z1, z2, z3, z4, u1, u2⟩ := id hH
            refine AnyT.take (i := 0) (cs := [1, 3, 39]) rfl (by kernel_rfl) (by kernel_rfl) (by kernel_rfl) (by kernel_rfl) rfl (by kernel_rfl) (fun _ _ _ h => h) hH (by kernel_rfl) (by intro w hSw; (try dsimp only at hSw); go_simp; (try with_reducible rfl)) ?_
            try simp only [Act.put, List.setIfInBounds_toArray, List.set_cons_zero, List.set_cons_succ]
            refine AnyT.one (i := 1) (by kernel_rfl) rfl (fun K hK => ?_)
            go_simp
            go_at_call 326
            (with_reducible refine (inlineOk_i (x := x) bn).mono ?_); rw [HL.out]
            rintro e v1 ⟨rfl, hg1⟩
            have hgr1 := hdr.trans hg1
            have z0 := grow_cell hg1 z0
            have z1 := grow_cell hg1 z1
            have z2 := grow_cell hg1 z2
            have z3 := grow_cell hg1 z3
            have z4 := grow_cell hg1 z4
            have u1 := grow_cell hg1 u1
            have u2 := grow_cell hg1 u2
            refine hK.out _ _ (And.intro z0 (And.intro z1 (And.intro z2 (And.intro z3 (And.intro z4 (And.intro u1 u2)))))) (fun hI => ?_)
            clear hK hH
            have hH := hI
            try simp only [Act.put, List.setIfInBounds_toArray, List.set_cons_zero, List.set_cons_succ]
            refine AnyT.take (i := 2) (cs := [3, 39]) rfl (by kernel_rfl) (by kernel_rfl) (by kernel_rfl) (by kernel_rfl) rfl (by kernel_rfl) (fun _ _ _ h => h) hH (by kernel_rfl) (by intro w hSw; (try dsimp only at hSw); go_simp; (try with_reducible rfl)) ?_
            try simp only [Act.put, List.setIfInBounds_toArray, List.set_cons_zero, List.set_cons_succ]
            refine AnyT.take (i := 3) (cs := [39]) rfl (by kernel_rfl) (by kernel_rfl) (by kernel_rfl) (by kernel_rfl) rfl (by kernel_rfl) (fun _ _ _ h => h) hH (by kernel_rfl) (by intro w hSw; (try dsimp only at hSw); go_simp; (try with_reducible rfl)) ?_
            try simp only [Act.put, List.setIfInBounds_toArray, List.set_cons_zero, List.set_cons_succ]
            refine AnyT.take (i := 4) (cs := [5, 6, 38, 39]) rfl (by kernel_rfl) (by kernel_rfl) (by kernel_rfl) (by kernel_rfl) rfl (by kernel_rfl) (fun _ _ _ h => h) hH (by kernel_rfl) (by intro w hSw; (try dsimp only at hSw); go_simp; (try with_reducible rfl)) ?_
            try simp only [Act.put, List.setIfInBounds_toArray, List.set_cons_zero, List.set_cons_succ]
            refine AnyT.take (i := 5) (cs := [6, 38, 39]) rfl (by kernel_rfl) (by kernel_rfl) (by kernel_rfl) (by kernel_rfl) rfl (by kernel_rfl) (fun _ _ _ h => h) hH (by kernel_rfl) (by intro w hSw; (try dsimp only at hSw); go_simp; (try with_reducible rfl)) ?_
            try simp only [Act.put, List.setIfInBounds_toArray, List.set_cons_zero, List.set_cons_succ]
            refine AnyT.take (i := 6) (cs := [38, 39]) rfl (by kernel_rfl) (by kernel_rfl) (by kernel_rfl) (by kernel_rfl) rfl (by kernel_rfl) (fun _ _ _ h => h) hH (by kernel_rfl) (by intro w hSw; (try dsimp only at hSw); go_simp; (try with_reducible rfl)) ?_
            try simp only [Act.put, List.setIfInBounds_toArray, List.set_cons_zero, List.set_cons_succ]
            refine AnyT.take (i := 7) (cs := [10, 11, 12, 15, 16, 37, 38, 39]) rfl (by kernel_rfl) (by kernel_rfl) (by kernel_rfl) (by kernel_rfl) rfl (by kernel_rfl) (fun _ _ _ h => h) hH (by kernel_rfl) (by intro w hSw; (try dsimp only at hSw); go_simp; (try with_reducible rfl)) ?_
            try simp only [Act.put, List.setIfInBounds_toArray, List.set_cons_zero, List.set_cons_succ]
            refine AnyT.take (i := 8) (cs := [9, 10, 11, 12, 15, 16, 37, 38, 39]) rfl (by kernel_rfl) (by kernel_rfl) (by kernel_rfl) (by kernel_rfl) rfl (by kernel_rfl) (fun _ _ _ h => h) hH (by kernel_rfl) (by intro w hSw; (try dsimp only at hSw); go_simp; (try with_reducible rfl)) ?_
            try simp only [Act.put, List.setIfInBounds_toArray, List.set_cons_zero, List.set_cons_succ]
            refine AnyT.take (i := 9) (cs := [10, 11, 12, 15, 16, 37, 38, 39]) rfl (by kernel_rfl) (by kernel_rfl) (by kernel_rfl) (by kernel_rfl) rfl (by kernel_rfl) (fun _ _ _ h => h) hH (by kernel_rfl) (by intro w hSw; (try dsimp only at hSw); go_simp; (try with_reducible rfl)) ?_
            try simp only [Act.put, List.setIfInBounds_toArray, List.set_cons_zero, List.set_cons_succ]
            refine AnyT.take (i := 10) (cs := [11, 12, 15, 16, 37, 38, 39]) rfl (by kernel_rfl) (by kernel_rfl) (by kernel_rfl) (by kernel_rfl) rfl (by kernel_rfl) (fun _ _ _ h => h) hH (by kernel_rfl) (by intro w hSw; (try dsimp only at hSw); go_simp; (try with_reducible rfl)) ?_
            try simp only [Act.put, List.setIfInBounds_toArray, List.set_cons_zero, List.set_cons_succ]
            refine AnyT.take (i := 11) (cs := [12, 15, 16, 37, 38, 39]) rfl (by kernel_rfl) (by kernel_rfl) (by kernel_rfl) (by kernel_rfl) rfl (by kernel_rfl) (fun _ _ _ h => h) hH (by kernel_rfl) (by intro w hSw; (try dsimp only at hSw); go_simp; (try with_reducible rfl)) ?_
            try simp only [Act.put, List.setIfInBounds_toArray, List.set_cons_zero, List.set_cons_succ]
            refine AnyT.take (i := 12) (cs := [15, 16, 37, 38, 39]) rfl (by kernel_rfl) (by kernel_rfl) (by kernel_rfl) (by kernel_rfl) rfl (by kernel_rfl) (fun _ _ _ h => h) hH (by kernel_rfl) (by intro w hSw; (try dsimp only at hSw); go_simp; (try with_reducible rfl)) ?_
            try simp only [Act.put, List.setIfInBounds_toArray, List.set_cons_zero, List.set_cons_succ]
            refine AnyT.take (i := 13) (cs := [14, 15, 16, 37, 38, 39]) rfl (by kernel_rfl) (by kernel_rfl) (by kernel_rfl) (by kernel_rfl) rfl (by kernel_rfl) (fun _ _ _ h => h) hH (by kernel_rfl) (by intro w hSw; (try dsimp only at hSw); go_simp; (try with_reducible rfl)) ?_
            try simp only [Act.put, List.setIfInBounds_toArray, List.set_cons_zero, List.set_cons_succ]
            refine AnyT.take (i := 14) (cs := [15, 16, 37, 38, 39]) rfl (by kernel_rfl) (by kernel_rfl) (by kernel_rfl) (by kernel_rfl) rfl (by kernel_rfl) (fun _ _ _ h => h) hH (by kernel_rfl) (by intro w hSw; (try dsimp only at hSw); go_simp; (try with_reducible rfl)) ?_
            try simp only [Act.put, List.setIfInBounds_toArray, List.set_cons_zero, List.set_cons_succ]
            refine AnyT.take (i := 15) (cs := [16, 37, 38, 39]) rfl (by kernel_rfl) (by kernel_rfl) (by kernel_rfl) (by kernel_rfl) rfl (by kernel_rfl) (fun _ _ _ h => h) hH (by kernel_rfl) (by intro w hSw; (try dsimp only at hSw); go_simp; (try with_reducible rfl)) ?_
            try simp only [Act.put, List.setIfInBounds_toArray, List.set_cons_zero, List.set_cons_succ]
            refine AnyT.take (i := 16) (cs := [37, 38, 39]) rfl (by kernel_rfl) (by kernel_rfl) (by kernel_rfl) (by kernel_rfl) rfl (by kernel_rfl) (fun _ _ _ h => h) hH (by kernel_rfl) (by intro w hSw; (try dsimp only at hSw); go_simp; (try with_reducible rfl)) ?_
            try simp only [Act.put, List.setIfInBounds_toArray, List.set_cons_zero, List.set_cons_succ]
            refine AnyT.skip (i := 17) (cs := [20, 21, 22, 25, 26, 36, 37, 38, 39]) rfl (by kernel_rfl) (by kernel_rfl) (by kernel_rfl) (by kernel_rfl) rfl (by kernel_rfl) (fun _ _ _ h => h) hH (by kernel_rfl) ?_
            try simp only [Act.put, List.setIfInBounds_toArray, List.set_cons_zero, List.set_cons_succ]
            refine AnyT.skip (i := 18) (cs := [19, 20, 21, 22, 25, 26, 36, 37, 38, 39]) rfl (by kernel_rfl) (by kernel_rfl) (by kernel_rfl) (by kernel_rfl) rfl (by kernel_rfl) (fun _ _ _ h => h) hH (by kernel_rfl) ?_
            try simp only [Act.put, List.setIfInBounds_toArray, List.set_cons_zero, List.set_cons_succ]
            refine AnyT.skip (i := 19) (cs := [20, 21, 22, 25, 26, 36, 37, 38, 39]) rfl (by kernel_rfl) (by kernel_rfl) (by kernel_rfl) (by kernel_rfl) rfl (by kernel_rfl) (fun _ _ _ h => h) hH (by kernel_rfl) ?_
            try simp only [Act.put, List.setIfInBounds_toArray, List.set_cons_zero, List.set_cons_succ]
            refine AnyT.skip (i := 20) (cs := [21, 22, 25, 26, 36, 37, 38, 39]) rfl (by kernel_rfl) (by kernel_rfl) (by kernel_rfl) (by kernel_rfl) rfl (by kernel_rfl) (fun _ _ _ h => h) hH (by kernel_rfl) ?_
            try simp only [Act.put, List.setIfInBounds_toArray, List.set_cons_zero, List.set_cons_succ]
            refine AnyT.skip (i := 21) (cs := [22, 25, 26, 36, 37, 38, 39]) rfl (by kernel_rfl) (by kernel_rfl) (by kernel_rfl) (by kernel_rfl) rfl (by kernel_rfl) (fun _ _ _ h => h) hH (by kernel_rfl) ?_
            try simp only [Act.put, List.setIfInBounds_toArray, List.set_cons_zero, List.set_cons_succ]
            refine AnyT.skip (i := 22) (cs := [25, 26, 36, 37, 38, 39]) rfl (by kernel_rfl) (by kernel_rfl) (by kernel_rfl) (by kernel_rfl) rfl (by kernel_rfl) (fun _ _ _ h => h) hH (by kernel_rfl) ?_
            try simp only [Act.put, List.setIfInBounds_toArray, List.set_cons_zero, List.set_cons_succ]
            refine AnyT.skip (i := 23) (cs := [24, 25, 26, 36, 37, 38, 39]) rfl (by kernel_rfl) (by kernel_rfl) (by kernel_rfl) (by kernel_rfl) rfl (by kernel_rfl) (fun _ _ _ h => h) hH (by kernel_rfl) ?_
            try simp only [Act.put, List.setIfInBounds_toArray, List.set_cons_zero, List.set_cons_succ]
            refine AnyT.skip (i := 24) (cs := [25, 26, 36, 37, 38, 39]) rfl (by kernel_rfl) (by kernel_rfl) (by kernel_rfl) (by kernel_rfl) rfl (by kernel_rfl) (fun _ _ _ h => h) hH (by kernel_rfl) ?_
            try simp only [Act.put, List.setIfInBounds_toArray, List.set_cons_zero, List.set_cons_succ]
            refine AnyT.skip (i := 25) (cs := [26, 36, 37, 38, 39]) rfl (by kernel_rfl) (by kernel_rfl) (by kernel_rfl) (by kernel_rfl) rfl (by kernel_rfl) (fun _ _ _ h => h) hH (by kernel_rfl) ?_
            try simp only [Act.put, List.setIfInBounds_toArray, List.set_cons_zero, List.set_cons_succ]
            refine AnyT.skip (i := 26) (cs := [36, 37, 38, 39]) rfl (by kernel_rfl) (by kernel_rfl) (by kernel_rfl) (by kernel_rfl) rfl (by kernel_rfl) (fun _ _ _ h => h) hH (by kernel_rfl) ?_
            try simp only [Act.put, List.setIfInBounds_toArray, List.set_cons_zero, List.set_cons_succ]
            refine AnyT.skip (i := 27) (cs := [28, 35, 36, 37, 38, 39]) rfl (by kernel_rfl) (by kernel_rfl) (by kernel_rfl) (by kernel_rfl) rfl (by kernel_rfl) (fun _ _ _ h => h) hH (by kernel_rfl) ?_
            try simp only [Act.put, List.setIfInBounds_toArray, List.set_cons_zero, List.set_cons_succ]
            refine AnyT.skip (i := 28) (cs := [35, 36, 37, 38, 39]) rfl (by kernel_rfl) (by kernel_rfl) (by kernel_rfl) (by kernel_rfl) rfl (by kernel_rfl) (fun _ _ _ h => h) hH (by kernel_rfl) ?_
            try simp only [Act.put, List.setIfInBounds_toArray, List.set_cons_zero, List.set_cons_succ]
            refine AnyT.skip (i := 29) (cs := [32, 33, 34, 35, 36, 37, 38, 39]) rfl (by kernel_rfl) (by kernel_rfl) (by kernel_rfl) (by kernel_rfl) rfl (by kernel_rfl) (fun _ _ _ h => h) hH (by kernel_rfl) ?_
            try simp only [Act.put, List.setIfInBounds_toArray, List.set_cons_zero, List.set_cons_succ]
            refine AnyT.skip (i := 30) (cs := [31, 32, 33, 34, 35, 36, 37, 38, 39]) rfl (by kernel_rfl) (by kernel_rfl) (by kernel_rfl) (by kernel_rfl) rfl (by kernel_rfl) (fun _ _ _ h => h) hH (by kernel_rfl) ?_
            try simp only [Act.put, List.setIfInBounds_toArray, List.set_cons_zero, List.set_cons_succ]
            refine AnyT.skip (i := 31) (cs := [32, 33, 34, 35, 36, 37, 38, 39]) rfl (by kernel_rfl) (by kernel_rfl) (by kernel_rfl) (by kernel_rfl) rfl (by kernel_rfl) (fun _ _ _ h => h) hH (by kernel_rfl) ?_
            try simp only [Act.put, List.setIfInBounds_toArray, List.set_cons_zero, List.set_cons_succ]
            refine AnyT.skip (i := 32) (cs := [33, 34, 35, 36, 37, 38, 39]) rfl (by kernel_rfl) (by kernel_rfl) (by kernel_rfl) (by kernel_rfl) rfl (by kernel_rfl) (fun _ _ _ h => h) hH (by kernel_rfl) ?_
            try simp only [Act.put, List.setIfInBounds_toArray, List.set_cons_zero, List.set_cons_succ]
            refine AnyT.skip (i := 33) (cs := [34, 35, 36, 37, 38, 39]) rfl (by kernel_rfl) (by kernel_rfl) (by kernel_rfl) (by kernel_rfl) rfl (by kernel_rfl) (fun _ _ _ h => h) hH (by kernel_rfl) ?_
            try simp only [Act.put, List.setIfInBounds_toArray, List.set_cons_zero, List.set_cons_succ]
            refine AnyT.skip (i := 34) (cs := [35, 36, 37, 38, 39]) rfl (by kernel_rfl) (by kernel_rfl) (by kernel_rfl) (by kernel_rfl) rfl (by kernel_rfl) (fun _ _ _ h => h) hH (by kernel_rfl) ?_
            try simp only [Act.put, List.setIfInBounds_toArray, List.set_cons_zero, List.set_cons_succ]
            refine AnyT.skip (i := 35) (cs := [36, 37, 38, 39]) rfl (by kernel_rfl) (by kernel_rfl) (by kernel_rfl) (by kernel_rfl) rfl (by kernel_rfl) (fun _ _ _ h => h) hH (by kernel_rfl) ?_
            try simp only [Act.put, List.setIfInBounds_toArray, List.set_cons_zero, List.set_cons_succ]
            refine AnyT.skip (i := 36) (cs := [37, 38, 39]) rfl (by kernel_rfl) (by kernel_rfl) (by kernel_rfl) (by kernel_rfl) rfl (by kernel_rfl) (fun _ _ _ h => h) hH (by kernel_rfl) ?_
            try simp only [Act.put, List.setIfInBounds_toArray, List.set_cons_zero, List.set_cons_succ]
            refine AnyT.take (i := 37) (cs := [38, 39]) rfl (by kernel_rfl) (by kernel_rfl) (by kernel_rfl) (by kernel_rfl) rfl (by kernel_rfl) (fun _ _ _ h => h) hH (by kernel_rfl) (by intro w hSw; (try dsimp only at hSw); go_simp; (try with_reducible rfl)) ?_
            try simp only [Act.put, List.setIfInBounds_toArray, List.set_cons_zero, List.set_cons_succ]
            refine AnyT.take (i := 38) (cs := [39]) rfl (by kernel_rfl) (by kernel_rfl) (by kernel_rfl) (by kernel_rfl) rfl (by kernel_rfl) (fun _ _ _ h => h) hH (by kernel_rfl) (by intro w hSw; (try dsimp only at hSw); go_simp; (try with_reducible rfl)) ?_
            try simp only [Act.put, List.setIfInBounds_toArray, List.set_cons_zero, List.set_cons_succ]
            refine AnyT.last (by kernel_rfl) rfl (by kernel_rfl) (fun K hK => ?_)
            go_simp
            refine hK.out _ _ ?_
            clear hK
            try simp only [Act.put, List.setIfInBounds_toArray, List.set_cons_zero, List.set_cons_succ]
            have hGv := hG0.trans hgr1
            have hgb9 : gb < v1.heap.size := by have := hgr1.size; omega
            go_wp2_with (fail)
            go_ret
            exact ⟨ret_bool (by rw [← hE.out, inlG_at HX.out, HR.out]; rfl), hGv.trans gG⟩
          · have a1b : decide (x.Level < q.Level) = false := decide_eq_false a1
            by_cases a2 : q.Level = x.Level
            · have a2b : (q.Level == x.Level) = true := by simp [a2]
              clear a2
              by_cases a3 : x.Start < q.End
              · have a3b : decide (x.Start < q.End) = true := decide_eq_true a3
                have HR := Lib.hid (show inlK rs (j + 1) x = false from inlK_bad HQ.out (by unfold inlBad; rw [a1b, a2b, a3b]; rfl))
                refine region_T (fun w' => w'.cell? ⟨gb, 0, none⟩ = some (.int .i64 x.Start) ∧ w'.cell? ⟨gb, 1, none⟩ = some (.int .i64 x.End) ∧ w'.cell? ⟨gb, 2, none⟩ = some (.int .i64 x.Level) ∧ w'.cell? ⟨gb, 3, none⟩ = some (.int .i64 x.Line) ∧ w'.cell? ⟨gb, 4, none⟩ = some (.string x.Name) ∧ w'.cell? ⟨g, off + j * 5 + 1, none⟩ = some (.int .i64 q.End) ∧ w'.cell? ⟨g, off + j * 5 + 2, none⟩ = some (.int .i64 q.Level)) 39 (by kernel_rfl) (And.intro (drew_keeps z0) (And.intro (drew_keeps z1) (And.intro (drew_keeps z2) (And.intro (drew_keeps z3) (And.intro (drew_keeps z4) (And.intro (drew_keeps u1) (drew_keeps u2))))))) (fun hH => ?_)
                have hdr : Gro Y Y.drew := (Gro.refl _).drew
                clear z0 z1 z2 z3 z4 u1 u2
                generalize Y.drew = wx at hdr hH ⊢
                obtain ⟨z0, z1, z2, z3, z4, u1, u2⟩ := id hH
                refine AnyT.take (i := 0) (cs := [1, 3, 39]) rfl (by kernel_rfl) (by kernel_rfl) (by kernel_rfl) (by kernel_rfl) rfl (by kernel_rfl) (fun _ _ _ h => h) hH (by kernel_rfl) (by intro w hSw; (try dsimp only at hSw); go_simp; (try with_reducible rfl)) ?_
                try simp only [Act.put, List.setIfInBounds_toArray, List.set_cons_zero, List.set_cons_succ]
                refine AnyT.one (i := 1) (by kernel_rfl) rfl (fun K hK => ?_)
                go_simp
                go_at_call 326
                (with_reducible refine (inlineOk_i (x := x) bn).mono ?_); rw [HL.out]
                rintro e v1 ⟨rfl, hg1⟩
                have hgr1 := hdr.trans hg1
                have z0 := grow_cell hg1 z0
                have z1 := grow_cell hg1 z1
                have z2 := grow_cell hg1 z2
                have z3 := grow_cell hg1 z3
                have z4 := grow_cell hg1 z4
                have u1 := grow_cell hg1 u1
                have u2 := grow_cell hg1 u2
                refine hK.out _ _ (And.intro z0 (And.intro z1 (And.intro z2 (And.intro z3 (And.intro z4 (And.intro u1 u2)))))) (fun hI => ?_)
                clear hK hH
                have hH := hI
                try simp only [Act.put, List.setIfInBounds_toArray, List.set_cons_zero, List.set_cons_succ]
                refine AnyT.take (i := 2) (cs := [3, 39]) rfl (by kernel_rfl) (by kernel_rfl) (by kernel_rfl) (by kernel_rfl) rfl (by kernel_rfl) (fun _ _ _ h => h) hH (by kernel_rfl) (by intro w hSw; (try dsimp only at hSw); go_simp; (try with_reducible rfl)) ?_
                try simp only [Act.put, List.setIfInBounds_toArray, List.set_cons_zero, List.set_cons_succ]
                refine AnyT.take (i := 3) (cs := [39]) rfl (by kernel_rfl) (by kernel_rfl) (by kernel_rfl) (by kernel_rfl) rfl (by kernel_rfl) (fun _ _ _ h => h) hH (by kernel_rfl) (by intro w hSw; (try dsimp only at hSw); go_simp; (try with_reducible rfl)) ?_
                try simp only [Act.put, List.setIfInBounds_toArray, List.set_cons_zero, List.set_cons_succ]
                refine AnyT.take (i := 4) (cs := [5, 6, 38, 39]) rfl (by kernel_rfl) (by kernel_rfl) (by kernel_rfl) (by kernel_rfl) rfl (by kernel_rfl) (fun _ _ _ h => h) hH (by kernel_rfl) (by intro w hSw; (try dsimp only at hSw); go_simp; (try with_reducible rfl)) ?_
                try simp only [Act.put, List.setIfInBounds_toArray, List.set_cons_zero, List.set_cons_succ]
                refine AnyT.take (i := 5) (cs := [6, 38, 39]) rfl (by kernel_rfl) (by kernel_rfl) (by kernel_rfl) (by kernel_rfl) rfl (by kernel_rfl) (fun _ _ _ h => h) hH (by kernel_rfl) (by intro w hSw; (try dsimp only at hSw); go_simp; (try with_reducible rfl)) ?_
                try simp only [Act.put, List.setIfInBounds_toArray, List.set_cons_zero, List.set_cons_succ]
                refine AnyT.take (i := 6) (cs := [38, 39]) rfl (by kernel_rfl) (by kernel_rfl) (by kernel_rfl) (by kernel_rfl) rfl (by kernel_rfl) (fun _ _ _ h => h) hH (by kernel_rfl) (by intro w hSw; (try dsimp only at hSw); go_simp; (try with_reducible rfl)) ?_
                try simp only [Act.put, List.setIfInBounds_toArray, List.set_cons_zero, List.set_cons_succ]
                refine AnyT.take (i := 7) (cs := [10, 11, 12, 15, 16, 37, 38, 39]) rfl (by kernel_rfl) (by kernel_rfl) (by kernel_rfl) (by kernel_rfl) rfl (by kernel_rfl) (fun _ _ _ h => h) hH (by kernel_rfl) (by intro w hSw; (try dsimp only at hSw); go_simp; (try with_reducible rfl)) ?_
                try simp only [Act.put, List.setIfInBounds_toArray, List.set_cons_zero, List.set_cons_succ]
                refine AnyT.take (i := 8) (cs := [9, 10, 11, 12, 15, 16, 37, 38, 39]) rfl (by kernel_rfl) (by kernel_rfl) (by kernel_rfl) (by kernel_rfl) rfl (by kernel_rfl) (fun _ _ _ h => h) hH (by kernel_rfl) (by intro w hSw; (try dsimp only at hSw); go_simp; (try with_reducible rfl)) ?_
                try simp only [Act.put, List.setIfInBounds_toArray, List.set_cons_zero, List.set_cons_succ]
                refine AnyT.take (i := 9) (cs := [10, 11, 12, 15, 16, 37, 38, 39]) rfl (by kernel_rfl) (by kernel_rfl) (by kernel_rfl) (by kernel_rfl) rfl (by kernel_rfl) (fun _ _ _ h => h) hH (by kernel_rfl) (by intro w hSw; (try dsimp only at hSw); go_simp; (try with_reducible rfl)) ?_
                try simp only [Act.put, List.setIfInBounds_toArray, List.set_cons_zero, List.set_cons_succ]
                refine AnyT.take (i := 10) (cs := [11, 12, 15, 16, 37, 38, 39]) rfl (by kernel_rfl) (by kernel_rfl) (by kernel_rfl) (by kernel_rfl) rfl (by kernel_rfl) (fun _ _ _ h => h) hH (by kernel_rfl) (by intro w hSw; (try dsimp only at hSw); go_simp; (try with_reducible rfl)) ?_
                try simp only [Act.put, List.setIfInBounds_toArray, List.set_cons_zero, List.set_cons_succ]
                refine AnyT.take (i := 11) (cs := [12, 15, 16, 37, 38, 39]) rfl (by kernel_rfl) (by kernel_rfl) (by kernel_rfl) (by kernel_rfl) rfl (by kernel_rfl) (fun _ _ _ h => h) hH (by kernel_rfl) (by intro w hSw; (try dsimp only at hSw); go_simp; (try with_reducible rfl)) ?_
                try simp only [Act.put, List.setIfInBounds_toArray, List.set_cons_zero, List.set_cons_succ]
                refine AnyT.take (i := 12) (cs := [15, 16, 37, 38, 39]) rfl (by kernel_rfl) (by kernel_rfl) (by kernel_rfl) (by kernel_rfl) rfl (by kernel_rfl) (fun _ _ _ h => h) hH (by kernel_rfl) (by intro w hSw; (try dsimp only at hSw); go_simp; (try with_reducible rfl)) ?_
                try simp only [Act.put, List.setIfInBounds_toArray, List.set_cons_zero, List.set_cons_succ]
                refine AnyT.take (i := 13) (cs := [14, 15, 16, 37, 38, 39]) rfl (by kernel_rfl) (by kernel_rfl) (by kernel_rfl) (by kernel_rfl) rfl (by kernel_rfl) (fun _ _ _ h => h) hH (by kernel_rfl) (by intro w hSw; (try dsimp only at hSw); go_simp; (try with_reducible rfl)) ?_
                try simp only [Act.put, List.setIfInBounds_toArray, List.set_cons_zero, List.set_cons_succ]
                refine AnyT.take (i := 14) (cs := [15, 16, 37, 38, 39]) rfl (by kernel_rfl) (by kernel_rfl) (by kernel_rfl) (by kernel_rfl) rfl (by kernel_rfl) (fun _ _ _ h => h) hH (by kernel_rfl) (by intro w hSw; (try dsimp only at hSw); go_simp; (try with_reducible rfl)) ?_
                try simp only [Act.put, List.setIfInBounds_toArray, List.set_cons_zero, List.set_cons_succ]
                refine AnyT.take (i := 15) (cs := [16, 37, 38, 39]) rfl (by kernel_rfl) (by kernel_rfl) (by kernel_rfl) (by kernel_rfl) rfl (by kernel_rfl) (fun _ _ _ h => h) hH (by kernel_rfl) (by intro w hSw; (try dsimp only at hSw); go_simp; (try with_reducible rfl)) ?_
                try simp only [Act.put, List.setIfInBounds_toArray, List.set_cons_zero, List.set_cons_succ]
                refine AnyT.take (i := 16) (cs := [37, 38, 39]) rfl (by kernel_rfl) (by kernel_rfl) (by kernel_rfl) (by kernel_rfl) rfl (by kernel_rfl) (fun _ _ _ h => h) hH (by kernel_rfl) (by intro w hSw; (try dsimp only at hSw); go_simp; (try with_reducible rfl)) ?_
                try simp only [Act.put, List.setIfInBounds_toArray, List.set_cons_zero, List.set_cons_succ]
                refine AnyT.take (i := 17) (cs := [20, 21, 22, 25, 26, 36, 37, 38, 39]) rfl (by kernel_rfl) (by kernel_rfl) (by kernel_rfl) (by kernel_rfl) rfl (by kernel_rfl) (fun _ _ _ h => h) hH (by kernel_rfl) (by intro w hSw; (try dsimp only at hSw); go_simp; (try with_reducible rfl)) ?_
                try simp only [Act.put, List.setIfInBounds_toArray, List.set_cons_zero, List.set_cons_succ]
                refine AnyT.take (i := 18) (cs := [19, 20, 21, 22, 25, 26, 36, 37, 38, 39]) rfl (by kernel_rfl) (by kernel_rfl) (by kernel_rfl) (by kernel_rfl) rfl (by kernel_rfl) (fun _ _ _ h => h) hH (by kernel_rfl) (by intro w hSw; (try dsimp only at hSw); go_simp; (try with_reducible rfl)) ?_
                try simp only [Act.put, List.setIfInBounds_toArray, List.set_cons_zero, List.set_cons_succ]
                refine AnyT.take (i := 19) (cs := [20, 21, 22, 25, 26, 36, 37, 38, 39]) rfl (by kernel_rfl) (by kernel_rfl) (by kernel_rfl) (by kernel_rfl) rfl (by kernel_rfl) (fun _ _ _ h => h) hH (by kernel_rfl) (by intro w hSw; (try dsimp only at hSw); go_simp; (try with_reducible rfl)) ?_
                try simp only [Act.put, List.setIfInBounds_toArray, List.set_cons_zero, List.set_cons_succ]
                refine AnyT.take (i := 20) (cs := [21, 22, 25, 26, 36, 37, 38, 39]) rfl (by kernel_rfl) (by kernel_rfl) (by kernel_rfl) (by kernel_rfl) rfl (by kernel_rfl) (fun _ _ _ h => h) hH (by kernel_rfl) (by intro w hSw; (try dsimp only at hSw); go_simp; (try with_reducible rfl)) ?_
                try simp only [Act.put, List.setIfInBounds_toArray, List.set_cons_zero, List.set_cons_succ]
                refine AnyT.take (i := 21) (cs := [22, 25, 26, 36, 37, 38, 39]) rfl (by kernel_rfl) (by kernel_rfl) (by kernel_rfl) (by kernel_rfl) rfl (by kernel_rfl) (fun _ _ _ h => h) hH (by kernel_rfl) (by intro w hSw; (try dsimp only at hSw); go_simp; (try with_reducible rfl)) ?_
                try simp only [Act.put, List.setIfInBounds_toArray, List.set_cons_zero, List.set_cons_succ]
                refine AnyT.take (i := 22) (cs := [25, 26, 36, 37, 38, 39]) rfl (by kernel_rfl) (by kernel_rfl) (by kernel_rfl) (by kernel_rfl) rfl (by kernel_rfl) (fun _ _ _ h => h) hH (by kernel_rfl) (by intro w hSw; (try dsimp only at hSw); go_simp; (try with_reducible rfl)) ?_
                try simp only [Act.put, List.setIfInBounds_toArray, List.set_cons_zero, List.set_cons_succ]
                refine AnyT.take (i := 23) (cs := [24, 25, 26, 36, 37, 38, 39]) rfl (by kernel_rfl) (by kernel_rfl) (by kernel_rfl) (by kernel_rfl) rfl (by kernel_rfl) (fun _ _ _ h => h) hH (by kernel_rfl) (by intro w hSw; (try dsimp only at hSw); go_simp; (try with_reducible rfl)) ?_
                try simp only [Act.put, List.setIfInBounds_toArray, List.set_cons_zero, List.set_cons_succ]
                refine AnyT.take (i := 24) (cs := [25, 26, 36, 37, 38, 39]) rfl (by kernel_rfl) (by kernel_rfl) (by kernel_rfl) (by kernel_rfl) rfl (by kernel_rfl) (fun _ _ _ h => h) hH (by kernel_rfl) (by intro w hSw; (try dsimp only at hSw); go_simp; (try with_reducible rfl)) ?_
                try simp only [Act.put, List.setIfInBounds_toArray, List.set_cons_zero, List.set_cons_succ]
                refine AnyT.take (i := 25) (cs := [26, 36, 37, 38, 39]) rfl (by kernel_rfl) (by kernel_rfl) (by kernel_rfl) (by kernel_rfl) rfl (by kernel_rfl) (fun _ _ _ h => h) hH (by kernel_rfl) (by intro w hSw; (try dsimp only at hSw); go_simp; (try with_reducible rfl)) ?_
                try simp only [Act.put, List.setIfInBounds_toArray, List.set_cons_zero, List.set_cons_succ]
                refine AnyT.take (i := 26) (cs := [36, 37, 38, 39]) rfl (by kernel_rfl) (by kernel_rfl) (by kernel_rfl) (by kernel_rfl) rfl (by kernel_rfl) (fun _ _ _ h => h) hH (by kernel_rfl) (by intro w hSw; (try dsimp only at hSw); go_simp; (try with_reducible rfl)) ?_
                try simp only [Act.put, List.setIfInBounds_toArray, List.set_cons_zero, List.set_cons_succ]
                refine AnyT.take (i := 27) (cs := [28, 35, 36, 37, 38, 39]) rfl (by kernel_rfl) (by kernel_rfl) (by kernel_rfl) (by kernel_rfl) rfl (by kernel_rfl) (fun _ _ _ h => h) hH (by kernel_rfl) (by intro w hSw; (try dsimp only at hSw); go_simp; (try with_reducible rfl)) ?_
                try simp only [Act.put, List.setIfInBounds_toArray, List.set_cons_zero, List.set_cons_succ]
                refine AnyT.take (i := 28) (cs := [35, 36, 37, 38, 39]) rfl (by kernel_rfl) (by kernel_rfl) (by kernel_rfl) (by kernel_rfl) rfl (by kernel_rfl) (fun _ _ _ h => h) hH (by kernel_rfl) (by intro w hSw; (try dsimp only at hSw); go_simp; (try with_reducible rfl)) ?_
                try simp only [Act.put, List.setIfInBounds_toArray, List.set_cons_zero, List.set_cons_succ]
                refine AnyT.take (i := 29) (cs := [32, 33, 34, 35, 36, 37, 38, 39]) rfl (by kernel_rfl) (by kernel_rfl) (by kernel_rfl) (by kernel_rfl) rfl (by kernel_rfl) (fun _ _ _ h => h) hH (by kernel_rfl) (by intro w hSw; (try dsimp only at hSw); go_simp; (try with_reducible rfl)) ?_
                try simp only [Act.put, List.setIfInBounds_toArray, List.set_cons_zero, List.set_cons_succ]
                refine AnyT.take (i := 30) (cs := [31, 32, 33, 34, 35, 36, 37, 38, 39]) rfl (by kernel_rfl) (by kernel_rfl) (by kernel_rfl) (by kernel_rfl) rfl (by kernel_rfl) (fun _ _ _ h => h) hH (by kernel_rfl) (by intro w hSw; (try dsimp only at hSw); go_simp; (try with_reducible rfl)) ?_
                try simp only [Act.put, List.setIfInBounds_toArray, List.set_cons_zero, List.set_cons_succ]
                refine AnyT.take (i := 31) (cs := [32, 33, 34, 35, 36, 37, 38, 39]) rfl (by kernel_rfl) (by kernel_rfl) (by kernel_rfl) (by kernel_rfl) rfl (by kernel_rfl) (fun _ _ _ h => h) hH (by kernel_rfl) (by intro w hSw; (try dsimp only at hSw); go_simp; (try with_reducible rfl)) ?_
                try simp only [Act.put, List.setIfInBounds_toArray, List.set_cons_zero, List.set_cons_succ]
                refine AnyT.take (i := 32) (cs := [33, 34, 35, 36, 37, 38, 39]) rfl (by kernel_rfl) (by kernel_rfl) (by kernel_rfl) (by kernel_rfl) rfl (by kernel_rfl) (fun _ _ _ h => h) hH (by kernel_rfl) (by intro w hSw; (try dsimp only at hSw); go_simp; (try with_reducible rfl)) ?_
                try simp only [Act.put, List.setIfInBounds_toArray, List.set_cons_zero, List.set_cons_succ]
                refine AnyT.take (i := 33) (cs := [34, 35, 36, 37, 38, 39]) rfl (by kernel_rfl) (by kernel_rfl) (by kernel_rfl) (by kernel_rfl) rfl (by kernel_rfl) (fun _ _ _ h => h) hH (by kernel_rfl) (by intro w hSw; (try dsimp only at hSw); go_simp; (try with_reducible rfl)) ?_
                try simp only [Act.put, List.setIfInBounds_toArray, List.set_cons_zero, List.set_cons_succ]
                refine AnyT.take (i := 34) (cs := [35, 36, 37, 38, 39]) rfl (by kernel_rfl) (by kernel_rfl) (by kernel_rfl) (by kernel_rfl) rfl (by kernel_rfl) (fun _ _ _ h => h) hH (by kernel_rfl) (by intro w hSw; (try dsimp only at hSw); go_simp; (try with_reducible rfl)) ?_
                try simp only [Act.put, List.setIfInBounds_toArray, List.set_cons_zero, List.set_cons_succ]
                refine AnyT.take (i := 35) (cs := [36, 37, 38, 39]) rfl (by kernel_rfl) (by kernel_rfl) (by kernel_rfl) (by kernel_rfl) rfl (by kernel_rfl) (fun _ _ _ h => h) hH (by kernel_rfl) (by intro w hSw; (try dsimp only at hSw); go_simp; (try with_reducible rfl)) ?_
                try simp only [Act.put, List.setIfInBounds_toArray, List.set_cons_zero, List.set_cons_succ]
                refine AnyT.take (i := 36) (cs := [37, 38, 39]) rfl (by kernel_rfl) (by kernel_rfl) (by kernel_rfl) (by kernel_rfl) rfl (by kernel_rfl) (fun _ _ _ h => h) hH (by kernel_rfl) (by intro w hSw; (try dsimp only at hSw); go_simp; (try with_reducible rfl)) ?_
                try simp only [Act.put, List.setIfInBounds_toArray, List.set_cons_zero, List.set_cons_succ]
                refine AnyT.take (i := 37) (cs := [38, 39]) rfl (by kernel_rfl) (by kernel_rfl) (by kernel_rfl) (by kernel_rfl) rfl (by kernel_rfl) (fun _ _ _ h => h) hH (by kernel_rfl) (by intro w hSw; (try dsimp only at hSw); go_simp; (try with_reducible rfl)) ?_
                try simp only [Act.put, List.setIfInBounds_toArray, List.set_cons_zero, List.set_cons_succ]
                refine AnyT.take (i := 38) (cs := [39]) rfl (by kernel_rfl) (by kernel_rfl) (by kernel_rfl) (by kernel_rfl) rfl (by kernel_rfl) (fun _ _ _ h => h) hH (by kernel_rfl) (by intro w hSw; (try dsimp only at hSw); go_simp; (try with_reducible rfl)) ?_
                try simp only [Act.put, List.setIfInBounds_toArray, List.set_cons_zero, List.set_cons_succ]
                refine AnyT.last (by kernel_rfl) rfl (by kernel_rfl) (fun K hK => ?_)
                go_simp
                refine hK.out _ _ ?_
                clear hK
                try simp only [Act.put, List.setIfInBounds_toArray, List.set_cons_zero, List.set_cons_succ]
                have hGv := hG0.trans hgr1
                have hgb9 : gb < v1.heap.size := by have := hgr1.size; omega
                go_wp2_with (fail)
                go_ret
                exact ⟨ret_bool (by rw [← hE.out, inlG_at HX.out, HR.out]; rfl), hGv.trans gG⟩
              · have a3b : decide (x.Start < q.End) = false := decide_eq_false a3
                have HB := Lib.hid (show inlBad q x = false from by unfold inlBad; rw [a1b, a2b, a3b]; rfl)
                refine region_T (fun w' => w'.cell? ⟨gb, 0, none⟩ = some (.int .i64 x.Start) ∧ w'.cell? ⟨gb, 1, none⟩ = some (.int .i64 x.End) ∧ w'.cell? ⟨gb, 2, none⟩ = some (.int .i64 x.Level) ∧ w'.cell? ⟨gb, 3, none⟩ = some (.int .i64 x.Line) ∧ w'.cell? ⟨gb, 4, none⟩ = some (.string x.Name) ∧ w'.cell? ⟨g, off + j * 5 + 1, none⟩ = some (.int .i64 q.End) ∧ w'.cell? ⟨g, off + j * 5 + 2, none⟩ = some (.int .i64 q.Level)) 39 (by kernel_rfl) (And.intro (drew_keeps z0) (And.intro (drew_keeps z1) (And.intro (drew_keeps z2) (And.intro (drew_keeps z3) (And.intro (drew_keeps z4) (And.intro (drew_keeps u1) (drew_keeps u2))))))) (fun hH => ?_)
                have hdr : Gro Y Y.drew := (Gro.refl _).drew
                clear z0 z1 z2 z3 z4 u1 u2
                generalize Y.drew = wx at hdr hH ⊢
                obtain ⟨z0, z1, z2, z3, z4, u1, u2⟩ := id hH
                refine AnyT.take (i := 0) (cs := [1, 3, 39]) rfl (by kernel_rfl) (by kernel_rfl) (by kernel_rfl) (by kernel_rfl) rfl (by kernel_rfl) (fun _ _ _ h => h) hH (by kernel_rfl) (by intro w hSw; (try dsimp only at hSw); go_simp; (try with_reducible rfl)) ?_
                try simp only [Act.put, List.setIfInBounds_toArray, List.set_cons_zero, List.set_cons_succ]
                refine AnyT.one (i := 1) (by kernel_rfl) rfl (fun K hK => ?_)
                go_simp
                go_at_call 326
                (with_reducible refine (inlineOk_i (x := x) bn).mono ?_); rw [HL.out]
                rintro e v1 ⟨rfl, hg1⟩
                have hgr1 := hdr.trans hg1
                have z0 := grow_cell hg1 z0
                have z1 := grow_cell hg1 z1
                have z2 := grow_cell hg1 z2
                have z3 := grow_cell hg1 z3
                have z4 := grow_cell hg1 z4
                have u1 := grow_cell hg1 u1
                have u2 := grow_cell hg1 u2
                refine hK.out _ _ (And.intro z0 (And.intro z1 (And.intro z2 (And.intro z3 (And.intro z4 (And.intro u1 u2)))))) (fun hI => ?_)
                clear hK hH
                have hH := hI
                try simp only [Act.put, List.setIfInBounds_toArray, List.set_cons_zero, List.set_cons_succ]
                refine AnyT.take (i := 2) (cs := [3, 39]) rfl (by kernel_rfl) (by kernel_rfl) (by kernel_rfl) (by kernel_rfl) rfl (by kernel_rfl) (fun _ _ _ h => h) hH (by kernel_rfl) (by intro w hSw; (try dsimp only at hSw); go_simp; (try with_reducible rfl)) ?_
                try simp only [Act.put, List.setIfInBounds_toArray, List.set_cons_zero, List.set_cons_succ]
                refine AnyT.take (i := 3) (cs := [39]) rfl (by kernel_rfl) (by kernel_rfl) (by kernel_rfl) (by kernel_rfl) rfl (by kernel_rfl) (fun _ _ _ h => h) hH (by kernel_rfl) (by intro w hSw; (try dsimp only at hSw); go_simp; (try with_reducible rfl)) ?_
                try simp only [Act.put, List.setIfInBounds_toArray, List.set_cons_zero, List.set_cons_succ]
                refine AnyT.take (i := 4) (cs := [5, 6, 38, 39]) rfl (by kernel_rfl) (by kernel_rfl) (by kernel_rfl) (by kernel_rfl) rfl (by kernel_rfl) (fun _ _ _ h => h) hH (by kernel_rfl) (by intro w hSw; (try dsimp only at hSw); go_simp; (try with_reducible rfl)) ?_
                try simp only [Act.put, List.setIfInBounds_toArray, List.set_cons_zero, List.set_cons_succ]
                refine AnyT.take (i := 5) (cs := [6, 38, 39]) rfl (by kernel_rfl) (by kernel_rfl) (by kernel_rfl) (by kernel_rfl) rfl (by kernel_rfl) (fun _ _ _ h => h) hH (by kernel_rfl) (by intro w hSw; (try dsimp only at hSw); go_simp; (try with_reducible rfl)) ?_
                try simp only [Act.put, List.setIfInBounds_toArray, List.set_cons_zero, List.set_cons_succ]
                refine AnyT.take (i := 6) (cs := [38, 39]) rfl (by kernel_rfl) (by kernel_rfl) (by kernel_rfl) (by kernel_rfl) rfl (by kernel_rfl) (fun _ _ _ h => h) hH (by kernel_rfl) (by intro w hSw; (try dsimp only at hSw); go_simp; (try with_reducible rfl)) ?_
                try simp only [Act.put, List.setIfInBounds_toArray, List.set_cons_zero, List.set_cons_succ]
                refine AnyT.take (i := 7) (cs := [10, 11, 12, 15, 16, 37, 38, 39]) rfl (by kernel_rfl) (by kernel_rfl) (by kernel_rfl) (by kernel_rfl) rfl (by kernel_rfl) (fun _ _ _ h => h) hH (by kernel_rfl) (by intro w hSw; (try dsimp only at hSw); go_simp; (try with_reducible rfl)) ?_
                try simp only [Act.put, List.setIfInBounds_toArray, List.set_cons_zero, List.set_cons_succ]
                refine AnyT.take (i := 8) (cs := [9, 10, 11, 12, 15, 16, 37, 38, 39]) rfl (by kernel_rfl) (by kernel_rfl) (by kernel_rfl) (by kernel_rfl) rfl (by kernel_rfl) (fun _ _ _ h => h) hH (by kernel_rfl) (by intro w hSw; (try dsimp only at hSw); go_simp; (try with_reducible rfl)) ?_
                try simp only [Act.put, List.setIfInBounds_toArray, List.set_cons_zero, List.set_cons_succ]
                refine AnyT.take (i := 9) (cs := [10, 11, 12, 15, 16, 37, 38, 39]) rfl (by kernel_rfl) (by kernel_rfl) (by kernel_rfl) (by kernel_rfl) rfl (by kernel_rfl) (fun _ _ _ h => h) hH (by kernel_rfl) (by intro w hSw; (try dsimp only at hSw); go_simp; (try with_reducible rfl)) ?_
                try simp only [Act.put, List.setIfInBounds_toArray, List.set_cons_zero, List.set_cons_succ]
                refine AnyT.take (i := 10) (cs := [11, 12, 15, 16, 37, 38, 39]) rfl (by kernel_rfl) (by kernel_rfl) (by kernel_rfl) (by kernel_rfl) rfl (by kernel_rfl) (fun _ _ _ h => h) hH (by kernel_rfl) (by intro w hSw; (try dsimp only at hSw); go_simp; (try with_reducible rfl)) ?_
                try simp only [Act.put, List.setIfInBounds_toArray, List.set_cons_zero, List.set_cons_succ]
                refine AnyT.take (i := 11) (cs := [12, 15, 16, 37, 38, 39]) rfl (by kernel_rfl) (by kernel_rfl) (by kernel_rfl) (by kernel_rfl) rfl (by kernel_rfl) (fun _ _ _ h => h) hH (by kernel_rfl) (by intro w hSw; (try dsimp only at hSw); go_simp; (try with_reducible rfl)) ?_
                try simp only [Act.put, List.setIfInBounds_toArray, List.set_cons_zero, List.set_cons_succ]
                refine AnyT.take (i := 12) (cs := [15, 16, 37, 38, 39]) rfl (by kernel_rfl) (by kernel_rfl) (by kernel_rfl) (by kernel_rfl) rfl (by kernel_rfl) (fun _ _ _ h => h) hH (by kernel_rfl) (by intro w hSw; (try dsimp only at hSw); go_simp; (try with_reducible rfl)) ?_
                try simp only [Act.put, List.setIfInBounds_toArray, List.set_cons_zero, List.set_cons_succ]
                refine AnyT.take (i := 13) (cs := [14, 15, 16, 37, 38, 39]) rfl (by kernel_rfl) (by kernel_rfl) (by kernel_rfl) (by kernel_rfl) rfl (by kernel_rfl) (fun _ _ _ h => h) hH (by kernel_rfl) (by intro w hSw; (try dsimp only at hSw); go_simp; (try with_reducible rfl)) ?_
                try simp only [Act.put, List.setIfInBounds_toArray, List.set_cons_zero, List.set_cons_succ]
                refine AnyT.take (i := 14) (cs := [15, 16, 37, 38, 39]) rfl (by kernel_rfl) (by kernel_rfl) (by kernel_rfl) (by kernel_rfl) rfl (by kernel_rfl) (fun _ _ _ h => h) hH (by kernel_rfl) (by intro w hSw; (try dsimp only at hSw); go_simp; (try with_reducible rfl)) ?_
                try simp only [Act.put, List.setIfInBounds_toArray, List.set_cons_zero, List.set_cons_succ]
                refine AnyT.take (i := 15) (cs := [16, 37, 38, 39]) rfl (by kernel_rfl) (by kernel_rfl) (by kernel_rfl) (by kernel_rfl) rfl (by kernel_rfl) (fun _ _ _ h => h) hH (by kernel_rfl) (by intro w hSw; (try dsimp only at hSw); go_simp; (try with_reducible rfl)) ?_
                try simp only [Act.put, List.setIfInBounds_toArray, List.set_cons_zero, List.set_cons_succ]
                refine AnyT.take (i := 16) (cs := [37, 38, 39]) rfl (by kernel_rfl) (by kernel_rfl) (by kernel_rfl) (by kernel_rfl) rfl (by kernel_rfl) (fun _ _ _ h => h) hH (by kernel_rfl) (by intro w hSw; (try dsimp only at hSw); go_simp; (try with_reducible rfl)) ?_
                try simp only [Act.put, List.setIfInBounds_toArray, List.set_cons_zero, List.set_cons_succ]
                refine AnyT.take (i := 17) (cs := [20, 21, 22, 25, 26, 36, 37, 38, 39]) rfl (by kernel_rfl) (by kernel_rfl) (by kernel_rfl) (by kernel_rfl) rfl (by kernel_rfl) (fun _ _ _ h => h) hH (by kernel_rfl) (by intro w hSw; (try dsimp only at hSw); go_simp; (try with_reducible rfl)) ?_
                try simp only [Act.put, List.setIfInBounds_toArray, List.set_cons_zero, List.set_cons_succ]
                refine AnyT.take (i := 18) (cs := [19, 20, 21, 22, 25, 26, 36, 37, 38, 39]) rfl (by kernel_rfl) (by kernel_rfl) (by kernel_rfl) (by kernel_rfl) rfl (by kernel_rfl) (fun _ _ _ h => h) hH (by kernel_rfl) (by intro w hSw; (try dsimp only at hSw); go_simp; (try with_reducible rfl)) ?_
                try simp only [Act.put, List.setIfInBounds_toArray, List.set_cons_zero, List.set_cons_succ]
                refine AnyT.take (i := 19) (cs := [20, 21, 22, 25, 26, 36, 37, 38, 39]) rfl (by kernel_rfl) (by kernel_rfl) (by kernel_rfl) (by kernel_rfl) rfl (by kernel_rfl) (fun _ _ _ h => h) hH (by kernel_rfl) (by intro w hSw; (try dsimp only at hSw); go_simp; (try with_reducible rfl)) ?_
                try simp only [Act.put, List.setIfInBounds_toArray, List.set_cons_zero, List.set_cons_succ]
                refine AnyT.take (i := 20) (cs := [21, 22, 25, 26, 36, 37, 38, 39]) rfl (by kernel_rfl) (by kernel_rfl) (by kernel_rfl) (by kernel_rfl) rfl (by kernel_rfl) (fun _ _ _ h => h) hH (by kernel_rfl) (by intro w hSw; (try dsimp only at hSw); go_simp; (try with_reducible rfl)) ?_
                try simp only [Act.put, List.setIfInBounds_toArray, List.set_cons_zero, List.set_cons_succ]
                refine AnyT.take (i := 21) (cs := [22, 25, 26, 36, 37, 38, 39]) rfl (by kernel_rfl) (by kernel_rfl) (by kernel_rfl) (by kernel_rfl) rfl (by kernel_rfl) (fun _ _ _ h => h) hH (by kernel_rfl) (by intro w hSw; (try dsimp only at hSw); go_simp; (try with_reducible rfl)) ?_
                try simp only [Act.put, List.setIfInBounds_toArray, List.set_cons_zero, List.set_cons_succ]
                refine AnyT.take (i := 22) (cs := [25, 26, 36, 37, 38, 39]) rfl (by kernel_rfl) (by kernel_rfl) (by kernel_rfl) (by kernel_rfl) rfl (by kernel_rfl) (fun _ _ _ h => h) hH (by kernel_rfl) (by intro w hSw; (try dsimp only at hSw); go_simp; (try with_reducible rfl)) ?_
                try simp only [Act.put, List.setIfInBounds_toArray, List.set_cons_zero, List.set_cons_succ]
                refine AnyT.take (i := 23) (cs := [24, 25, 26, 36, 37, 38, 39]) rfl (by kernel_rfl) (by kernel_rfl) (by kernel_rfl) (by kernel_rfl) rfl (by kernel_rfl) (fun _ _ _ h => h) hH (by kernel_rfl) (by intro w hSw; (try dsimp only at hSw); go_simp; (try with_reducible rfl)) ?_
                try simp only [Act.put, List.setIfInBounds_toArray, List.set_cons_zero, List.set_cons_succ]
                refine AnyT.take (i := 24) (cs := [25, 26, 36, 37, 38, 39]) rfl (by kernel_rfl) (by kernel_rfl) (by kernel_rfl) (by kernel_rfl) rfl (by kernel_rfl) (fun _ _ _ h => h) hH (by kernel_rfl) (by intro w hSw; (try dsimp only at hSw); go_simp; (try with_reducible rfl)) ?_
                try simp only [Act.put, List.setIfInBounds_toArray, List.set_cons_zero, List.set_cons_succ]
                refine AnyT.take (i := 25) (cs := [26, 36, 37, 38, 39]) rfl (by kernel_rfl) (by kernel_rfl) (by kernel_rfl) (by kernel_rfl) rfl (by kernel_rfl) (fun _ _ _ h => h) hH (by kernel_rfl) (by intro w hSw; (try dsimp only at hSw); go_simp; (try with_reducible rfl)) ?_
                try simp only [Act.put, List.setIfInBounds_toArray, List.set_cons_zero, List.set_cons_succ]
                refine AnyT.take (i := 26) (cs := [36, 37, 38, 39]) rfl (by kernel_rfl) (by kernel_rfl) (by kernel_rfl) (by kernel_rfl) rfl (by kernel_rfl) (fun _ _ _ h => h) hH (by kernel_rfl) (by intro w hSw; (try dsimp only at hSw); go_simp; (try with_reducible rfl)) ?_
                try simp only [Act.put, List.setIfInBounds_toArray, List.set_cons_zero, List.set_cons_succ]
                refine AnyT.take (i := 27) (cs := [28, 35, 36, 37, 38, 39]) rfl (by kernel_rfl) (by kernel_rfl) (by kernel_rfl) (by kernel_rfl) rfl (by kernel_rfl) (fun _ _ _ h => h) hH (by kernel_rfl) (by intro w hSw; (try dsimp only at hSw); go_simp; (try with_reducible rfl)) ?_
                try simp only [Act.put, List.setIfInBounds_toArray, List.set_cons_zero, List.set_cons_succ]
                refine AnyT.take (i := 28) (cs := [35, 36, 37, 38, 39]) rfl (by kernel_rfl) (by kernel_rfl) (by kernel_rfl) (by kernel_rfl) rfl (by kernel_rfl) (fun _ _ _ h => h) hH (by kernel_rfl) (by intro w hSw; (try dsimp only at hSw); go_simp; (try with_reducible rfl)) ?_
                try simp only [Act.put, List.setIfInBounds_toArray, List.set_cons_zero, List.set_cons_succ]
                refine AnyT.take (i := 29) (cs := [32, 33, 34, 35, 36, 37, 38, 39]) rfl (by kernel_rfl) (by kernel_rfl) (by kernel_rfl) (by kernel_rfl) rfl (by kernel_rfl) (fun _ _ _ h => h) hH (by kernel_rfl) (by intro w hSw; (try dsimp only at hSw); go_simp; (try with_reducible rfl)) ?_
                try simp only [Act.put, List.setIfInBounds_toArray, List.set_cons_zero, List.set_cons_succ]
                refine AnyT.take (i := 30) (cs := [31, 32, 33, 34, 35, 36, 37, 38, 39]) rfl (by kernel_rfl) (by kernel_rfl) (by kernel_rfl) (by kernel_rfl) rfl (by kernel_rfl) (fun _ _ _ h => h) hH (by kernel_rfl) (by intro w hSw; (try dsimp only at hSw); go_simp; (try with_reducible rfl)) ?_
                try simp only [Act.put, List.setIfInBounds_toArray, List.set_cons_zero, List.set_cons_succ]
                refine AnyT.take (i := 31) (cs := [32, 33, 34, 35, 36, 37, 38, 39]) rfl (by kernel_rfl) (by kernel_rfl) (by kernel_rfl) (by kernel_rfl) rfl (by kernel_rfl) (fun _ _ _ h => h) hH (by kernel_rfl) (by intro w hSw; (try dsimp only at hSw); go_simp; (try with_reducible rfl)) ?_
                try simp only [Act.put, List.setIfInBounds_toArray, List.set_cons_zero, List.set_cons_succ]
                refine AnyT.take (i := 32) (cs := [33, 34, 35, 36, 37, 38, 39]) rfl (by kernel_rfl) (by kernel_rfl) (by kernel_rfl) (by kernel_rfl) rfl (by kernel_rfl) (fun _ _ _ h => h) hH (by kernel_rfl) (by intro w hSw; (try dsimp only at hSw); go_simp; (try with_reducible rfl)) ?_
                try simp only [Act.put, List.setIfInBounds_toArray, List.set_cons_zero, List.set_cons_succ]
                refine AnyT.take (i := 33) (cs := [34, 35, 36, 37, 38, 39]) rfl (by kernel_rfl) (by kernel_rfl) (by kernel_rfl) (by kernel_rfl) rfl (by kernel_rfl) (fun _ _ _ h => h) hH (by kernel_rfl) (by intro w hSw; (try dsimp only at hSw); go_simp; (try with_reducible rfl)) ?_
                try simp only [Act.put, List.setIfInBounds_toArray, List.set_cons_zero, List.set_cons_succ]
                refine AnyT.take (i := 34) (cs := [35, 36, 37, 38, 39]) rfl (by kernel_rfl) (by kernel_rfl) (by kernel_rfl) (by kernel_rfl) rfl (by kernel_rfl) (fun _ _ _ h => h) hH (by kernel_rfl) (by intro w hSw; (try dsimp only at hSw); go_simp; (try with_reducible rfl)) ?_
                try simp only [Act.put, List.setIfInBounds_toArray, List.set_cons_zero, List.set_cons_succ]
                refine AnyT.take (i := 35) (cs := [36, 37, 38, 39]) rfl (by kernel_rfl) (by kernel_rfl) (by kernel_rfl) (by kernel_rfl) rfl (by kernel_rfl) (fun _ _ _ h => h) hH (by kernel_rfl) (by intro w hSw; (try dsimp only at hSw); go_simp; (try with_reducible rfl)) ?_
                try simp only [Act.put, List.setIfInBounds_toArray, List.set_cons_zero, List.set_cons_succ]
                refine AnyT.take (i := 36) (cs := [37, 38, 39]) rfl (by kernel_rfl) (by kernel_rfl) (by kernel_rfl) (by kernel_rfl) rfl (by kernel_rfl) (fun _ _ _ h => h) hH (by kernel_rfl) (by intro w hSw; (try dsimp only at hSw); go_simp; (try with_reducible rfl)) ?_
                try simp only [Act.put, List.setIfInBounds_toArray, List.set_cons_zero, List.set_cons_succ]
                refine AnyT.take (i := 37) (cs := [38, 39]) rfl (by kernel_rfl) (by kernel_rfl) (by kernel_rfl) (by kernel_rfl) rfl (by kernel_rfl) (fun _ _ _ h => h) hH (by kernel_rfl) (by intro w hSw; (try dsimp only at hSw); go_simp; (try with_reducible rfl)) ?_
                try simp only [Act.put, List.setIfInBounds_toArray, List.set_cons_zero, List.set_cons_succ]
                refine AnyT.take (i := 38) (cs := [39]) rfl (by kernel_rfl) (by kernel_rfl) (by kernel_rfl) (by kernel_rfl) rfl (by kernel_rfl) (fun _ _ _ h => h) hH (by kernel_rfl) (by intro w hSw; (try dsimp only at hSw); go_simp; (try with_reducible rfl)) ?_
                try simp only [Act.put, List.setIfInBounds_toArray, List.set_cons_zero, List.set_cons_succ]
                refine AnyT.last (by kernel_rfl) rfl (by kernel_rfl) (fun K hK => ?_)
                go_simp
                refine hK.out _ _ ?_
                clear hK
                try simp only [Act.put, List.setIfInBounds_toArray, List.set_cons_zero, List.set_cons_succ]
                have hGv := hG0.trans hgr1
                have hgb9 : gb < v1.heap.size := by have := hgr1.size; omega
                have HK := Lib.hid (inlK_succ HL.out HQ.out HB.out)
                by_cases a5 : x.Level = 0
                · have a5b : (x.Level == 0) = true := by simp [a5]
                  clear a5
                  rw [a5b] at HK
                  go_wp2_with (fail)
                  go_loopw [5, 62] (fun v a wr => ∃ (i : Nat) (b : Bool), v = .bool b ∧ a = .int .i64 i ∧ i ≤ (j + 1) ∧ Hid (Gro v1 wr) ∧ Hid (inlAny x b ((rs.take (j + 1)).drop i) = inlK rs (j + 1) x)) (fun _ a _ => (j + 1) - (intOf a).toNat)
                  case atStart => exact ⟨0, true, rfl, rfl, Nat.zero_le _, Lib.hid gG, Lib.hid (by rw [HK.out]; rfl)⟩
                  case round =>
                    obtain ⟨i, b, rfl, rfl, hi, hG2, hA2⟩ := hrel
                    obtain ⟨os2, d2, rfl⟩ := hG2.out
                    clear hG2
                    have z0 := gro_keeps z0 os2 d2
                    have z1 := gro_keeps z1 os2 d2
                    have z2 := gro_keeps z2 os2 d2
                    have z3 := gro_keeps z3 os2 d2
                    have z4 := gro_keeps z4 os2 d2
                    by_cases hlt2 : i < (j + 1)
                    · obtain ⟨g', off', y, hA', _, hyk, m0, m1, m2, m3, m4, _, _, _, _, _⟩ := atInline hx (k := i) (by omega)
                      injection hA' with hA'
                      injection hA' with q1 q2
                      subst q1 q2
                      have m0 := gro_keeps (grow_cell hGv m0) os2 d2
                      have m1 := gro_keeps (grow_cell hGv m1) os2 d2
                      have m2 := gro_keeps (grow_cell hGv m2) os2 d2
                      have m3 := gro_keeps (grow_cell hGv m3) os2 d2
                      have m4 := gro_keeps (grow_cell hGv m4) os2 d2
                      have HY := Lib.hid hyk
                      have hii : (i : Int) < ((j : Int) + 1) := by omega
                      have hir : (i : Int) < (rs.length : Int) := by omega
                      have hlw : IntKind.i64.wrap (x.Level - 1) = x.Level - 1 := IntWalk.i64_in _ ⟨by omega, by omega⟩
                      clear hyk
                      cases b with
                      | true =>
                        go_wp2_with (fail)
                        go_roundw
                        case measure => (simp [intOf]; try omega)
                        case rel => exact ⟨i + 1, true, rfl, by go_num, by omega, Lib.hid gG, Lib.hid (by rw [← hA2.out, inlAny_at HY.out hlt2]; rfl)⟩
                      | false =>
                        by_cases a6 : y.Level = x.Level - 1
                        · have a6b : (y.Level == x.Level - 1) = true := by simp [a6]
                          clear a6
                          by_cases a7 : y.Start ≤ x.Start
                          · have a7b : decide (y.Start ≤ x.Start) = true := decide_eq_true a7
                            by_cases a8 : x.End ≤ y.End
                            · have a8b : decide (x.End ≤ y.End) = true := decide_eq_true a8
                              go_wp2_with (fail)
                              go_roundw
                              case measure => (simp [intOf]; try omega)
                              case rel => exact ⟨i + 1, true, rfl, by go_num, by omega, Lib.hid gG, Lib.hid (by rw [← hA2.out, inlAny_at HY.out hlt2, show inlIn x y = true from by unfold inlIn; rw [a6b, a7b, a8b]; rfl]; rfl)⟩
                            · have a8b : decide (x.End ≤ y.End) = false := decide_eq_false a8
                              go_wp2_with (fail)
                              go_roundw
                              case measure => (simp [intOf]; try omega)
                              case rel => exact ⟨i + 1, false, rfl, by go_num, by omega, Lib.hid gG, Lib.hid (by rw [← hA2.out, inlAny_at HY.out hlt2, show inlIn x y = false from by unfold inlIn; rw [a6b, a7b, a8b]; rfl]; rfl)⟩
                          · have a7b : decide (y.Start ≤ x.Start) = false := decide_eq_false a7
                            go_wp2_with (fail)
                            go_roundw
                            case measure => (simp [intOf]; try omega)
                            case rel => exact ⟨i + 1, false, rfl, by go_num, by omega, Lib.hid gG, Lib.hid (by rw [← hA2.out, inlAny_at HY.out hlt2, show inlIn x y = false from by unfold inlIn; rw [a6b, a7b]; rfl]; rfl)⟩
                        · have a6b : (y.Level == x.Level - 1) = false := by simp [a6]
                          clear a6
                          go_wp2_with (fail)
                          go_roundw
                          case measure => (simp [intOf]; try omega)
                          case rel => exact ⟨i + 1, false, rfl, by go_num, by omega, Lib.hid gG, Lib.hid (by rw [← hA2.out, inlAny_at HY.out hlt2, show inlIn x y = false from by unfold inlIn; rw [a6b]; rfl]; rfl)⟩
                    · have hii : ¬ ((i : Int) < ((j : Int) + 1)) := by omega
                      have hA3 := hA2.out
                      rw [inlAny_end (by omega)] at hA3
                      have HZ := Lib.hid hA3
                      clear hA3
                      cases b with
                      | true =>
                        go_wp2_with (fail)
                        go_roundw
                        case measure => (simp [intOf]; try omega)
                        case rel => exact ⟨(j + 1) + 1, by go_num, by omega, Lib.hid (hGv.trans gG), Lib.hid (by rw [← hE.out, inlG_at HX.out, ← HZ.out]; rfl)⟩
                      | false =>
                        go_wp2_with (fail)
                        go_ret
                        exact ⟨ret_bool (by rw [← hE.out, inlG_at HX.out, ← HZ.out]; rfl), hGv.trans gG⟩
                · have a5b : (x.Level == 0) = false := by simp [a5]
                  clear a5
                  rw [a5b] at HK
                  go_wp2_with (fail)
                  go_loopw [5, 62] (fun v a wr => ∃ (i : Nat) (b : Bool), v = .bool b ∧ a = .int .i64 i ∧ i ≤ (j + 1) ∧ Hid (Gro v1 wr) ∧ Hid (inlAny x b ((rs.take (j + 1)).drop i) = inlK rs (j + 1) x)) (fun _ a _ => (j + 1) - (intOf a).toNat)
                  case atStart => exact ⟨0, false, rfl, rfl, Nat.zero_le _, Lib.hid gG, Lib.hid (by rw [HK.out]; rfl)⟩
                  case round =>
                    obtain ⟨i, b, rfl, rfl, hi, hG2, hA2⟩ := hrel
                    obtain ⟨os2, d2, rfl⟩ := hG2.out
                    clear hG2
                    have z0 := gro_keeps z0 os2 d2
                    have z1 := gro_keeps z1 os2 d2
                    have z2 := gro_keeps z2 os2 d2
                    have z3 := gro_keeps z3 os2 d2
                    have z4 := gro_keeps z4 os2 d2
                    by_cases hlt2 : i < (j + 1)
                    · obtain ⟨g', off', y, hA', _, hyk, m0, m1, m2, m3, m4, _, _, _, _, _⟩ := atInline hx (k := i) (by omega)
                      injection hA' with hA'
                      injection hA' with q1 q2
                      subst q1 q2
                      have m0 := gro_keeps (grow_cell hGv m0) os2 d2
                      have m1 := gro_keeps (grow_cell hGv m1) os2 d2
                      have m2 := gro_keeps (grow_cell hGv m2) os2 d2
                      have m3 := gro_keeps (grow_cell hGv m3) os2 d2
                      have m4 := gro_keeps (grow_cell hGv m4) os2 d2
                      have HY := Lib.hid hyk
                      have hii : (i : Int) < ((j : Int) + 1) := by omega
                      have hir : (i : Int) < (rs.length : Int) := by omega
                      have hlw : IntKind.i64.wrap (x.Level - 1) = x.Level - 1 := IntWalk.i64_in _ ⟨by omega, by omega⟩
                      clear hyk
                      cases b with
                      | true =>
                        go_wp2_with (fail)
                        go_roundw
                        case measure => (simp [intOf]; try omega)
                        case rel => exact ⟨i + 1, true, rfl, by go_num, by omega, Lib.hid gG, Lib.hid (by rw [← hA2.out, inlAny_at HY.out hlt2]; rfl)⟩
                      | false =>
                        by_cases a6 : y.Level = x.Level - 1
                        · have a6b : (y.Level == x.Level - 1) = true := by simp [a6]
                          clear a6
                          by_cases a7 : y.Start ≤ x.Start
                          · have a7b : decide (y.Start ≤ x.Start) = true := decide_eq_true a7
                            by_cases a8 : x.End ≤ y.End
                            · have a8b : decide (x.End ≤ y.End) = true := decide_eq_true a8
                              go_wp2_with (fail)
                              go_roundw
                              case measure => (simp [intOf]; try omega)
                              case rel => exact ⟨i + 1, true, rfl, by go_num, by omega, Lib.hid gG, Lib.hid (by rw [← hA2.out, inlAny_at HY.out hlt2, show inlIn x y = true from by unfold inlIn; rw [a6b, a7b, a8b]; rfl]; rfl)⟩
                            · have a8b : decide (x.End ≤ y.End) = false := decide_eq_false a8
                              go_wp2_with (fail)
                              go_roundw
                              case measure => (simp [intOf]; try omega)
                              case rel => exact ⟨i + 1, false, rfl, by go_num, by omega, Lib.hid gG, Lib.hid (by rw [← hA2.out, inlAny_at HY.out hlt2, show inlIn x y = false from by unfold inlIn; rw [a6b, a7b, a8b]; rfl]; rfl)⟩
                          · have a7b : decide (y.Start ≤ x.Start) = false := decide_eq_false a7
                            go_wp2_with (fail)
                            go_roundw
                            case measure => (simp [intOf]; try omega)
                            case rel => exact ⟨i + 1, false, rfl, by go_num, by omega, Lib.hid gG, Lib.hid (by rw [← hA2.out, inlAny_at HY.out hlt2, show inlIn x y = false from by unfold inlIn; rw [a6b, a7b]; rfl]; rfl)⟩
                        · have a6b : (y.Level == x.Level - 1) = false := by simp [a6]
                          clear a6
                          go_wp2_with (fail)
                          go_roundw
                          case measure => (simp [intOf]; try omega)
                          case rel => exact ⟨i + 1, false, rfl, by go_num, by omega, Lib.hid gG, Lib.hid (by rw [← hA2.out, inlAny_at HY.out hlt2, show inlIn x y = false from by unfold inlIn; rw [a6b]; rfl]; rfl)⟩
                    · have hii : ¬ ((i : Int) < ((j : Int) + 1)) := by omega
                      have hA3 := hA2.out
                      rw [inlAny_end (by omega)] at hA3
                      have HZ := Lib.hid hA3
                      clear hA3
                      cases b with
                      | true =>
                        go_wp2_with (fail)
                        go_roundw
                        case measure => (simp [intOf]; try omega)
                        case rel => exact ⟨(j + 1) + 1, by go_num, by omega, Lib.hid (hGv.trans gG), Lib.hid (by rw [← hE.out, inlG_at HX.out, ← HZ.out]; rfl)⟩
                      | false =>
                        go_wp2_with (fail)
                        go_ret
                        exact ⟨ret_bool (by rw [← hE.out, inlG_at HX.out, ← HZ.out]; rfl), hGv.trans gG⟩
            · have a2b : (q.Level == x.Level) = false := by simp [a2]
              clear a2
              have HB := Lib.hid (show inlBad q x = false from by unfold inlBad; rw [a1b, a2b]; rfl)
              refine region_T (fun w' => w'.cell? ⟨gb, 0, none⟩ = some (.int .i64 x.Start) ∧ w'.cell? ⟨gb, 1, none⟩ = some (.int .i64 x.End) ∧ w'.cell? ⟨gb, 2, none⟩ = some (.int .i64 x.Level) ∧ w'.cell? ⟨gb, 3, none⟩ = some (.int .i64 x.Line) ∧ w'.cell? ⟨gb, 4, none⟩ = some (.string x.Name) ∧ w'.cell? ⟨g, off + j * 5 + 1, none⟩ = some (.int .i64 q.End) ∧ w'.cell? ⟨g, off + j * 5 + 2, none⟩ = some (.int .i64 q.Level)) 39 (by kernel_rfl) (And.intro (drew_keeps z0) (And.intro (drew_keeps z1) (And.intro (drew_keeps z2) (And.intro (drew_keeps z3) (And.intro (drew_keeps z4) (And.intro (drew_keeps u1) (drew_keeps u2))))))) (fun hH => ?_)
              have hdr : Gro Y Y.drew := (Gro.refl _).drew
              clear z0 z1 z2 z3 z4 u1 u2
              generalize Y.drew = wx at hdr hH ⊢
              obtain ⟨z0, z1, z2, z3, z4, u1, u2⟩ := id hH
              refine AnyT.take (i := 0) (cs := [1, 3, 39]) rfl (by kernel_rfl) (by kernel_rfl) (by kernel_rfl) (by kernel_rfl) rfl (by kernel_rfl) (fun _ _ _ h => h) hH (by kernel_rfl) (by intro w hSw; (try dsimp only at hSw); go_simp; (try with_reducible rfl)) ?_
              try simp only [Act.put, List.setIfInBounds_toArray, List.set_cons_zero, List.set_cons_succ]
              refine AnyT.one (i := 1) (by kernel_rfl) rfl (fun K hK => ?_)
              go_simp
              go_at_call 326
              (with_reducible refine (inlineOk_i (x := x) bn).mono ?_); rw [HL.out]
              rintro e v1 ⟨rfl, hg1⟩
              have hgr1 := hdr.trans hg1
              have z0 := grow_cell hg1 z0
              have z1 := grow_cell hg1 z1
              have z2 := grow_cell hg1 z2
              have z3 := grow_cell hg1 z3
              have z4 := grow_cell hg1 z4
              have u1 := grow_cell hg1 u1
              have u2 := grow_cell hg1 u2
              refine hK.out _ _ (And.intro z0 (And.intro z1 (And.intro z2 (And.intro z3 (And.intro z4 (And.intro u1 u2)))))) (fun hI => ?_)
              clear hK hH
              have hH := hI
              try simp only [Act.put, List.setIfInBounds_toArray, List.set_cons_zero, List.set_cons_succ]
              refine AnyT.take (i := 2) (cs := [3, 39]) rfl (by kernel_rfl) (by kernel_rfl) (by kernel_rfl) (by kernel_rfl) rfl (by kernel_rfl) (fun _ _ _ h => h) hH (by kernel_rfl) (by intro w hSw; (try dsimp only at hSw); go_simp; (try with_reducible rfl)) ?_
              try simp only [Act.put, List.setIfInBounds_toArray, List.set_cons_zero, List.set_cons_succ]
              refine AnyT.take (i := 3) (cs := [39]) rfl (by kernel_rfl) (by kernel_rfl) (by kernel_rfl) (by kernel_rfl) rfl (by kernel_rfl) (fun _ _ _ h => h) hH (by kernel_rfl) (by intro w hSw; (try dsimp only at hSw); go_simp; (try with_reducible rfl)) ?_
              try simp only [Act.put, List.setIfInBounds_toArray, List.set_cons_zero, List.set_cons_succ]
              refine AnyT.take (i := 4) (cs := [5, 6, 38, 39]) rfl (by kernel_rfl) (by kernel_rfl) (by kernel_rfl) (by kernel_rfl) rfl (by kernel_rfl) (fun _ _ _ h => h) hH (by kernel_rfl) (by intro w hSw; (try dsimp only at hSw); go_simp; (try with_reducible rfl)) ?_
              try simp only [Act.put, List.setIfInBounds_toArray, List.set_cons_zero, List.set_cons_succ]
              refine AnyT.take (i := 5) (cs := [6, 38, 39]) rfl (by kernel_rfl) (by kernel_rfl) (by kernel_rfl) (by kernel_rfl) rfl (by kernel_rfl) (fun _ _ _ h => h) hH (by kernel_rfl) (by intro w hSw; (try dsimp only at hSw); go_simp; (try with_reducible rfl)) ?_
              try simp only [Act.put, List.setIfInBounds_toArray, List.set_cons_zero, List.set_cons_succ]
              refine AnyT.take (i := 6) (cs := [38, 39]) rfl (by kernel_rfl) (by kernel_rfl) (by kernel_rfl) (by kernel_rfl) rfl (by kernel_rfl) (fun _ _ _ h => h) hH (by kernel_rfl) (by intro w hSw; (try dsimp only at hSw); go_simp; (try with_reducible rfl)) ?_
              try simp only [Act.put, List.setIfInBounds_toArray, List.set_cons_zero, List.set_cons_succ]
              refine AnyT.take (i := 7) (cs := [10, 11, 12, 15, 16, 37, 38, 39]) rfl (by kernel_rfl) (by kernel_rfl) (by kernel_rfl) (by kernel_rfl) rfl (by kernel_rfl) (fun _ _ _ h => h) hH (by kernel_rfl) (by intro w hSw; (try dsimp only at hSw); go_simp; (try with_reducible rfl)) ?_
              try simp only [Act.put, List.setIfInBounds_toArray, List.set_cons_zero, List.set_cons_succ]
              refine AnyT.take (i := 8) (cs := [9, 10, 11, 12, 15, 16, 37, 38, 39]) rfl (by kernel_rfl) (by kernel_rfl) (by kernel_rfl) (by kernel_rfl) rfl (by kernel_rfl) (fun _ _ _ h => h) hH (by kernel_rfl) (by intro w hSw; (try dsimp only at hSw); go_simp; (try with_reducible rfl)) ?_
              try simp only [Act.put, List.setIfInBounds_toArray, List.set_cons_zero, List.set_cons_succ]
              refine AnyT.take (i := 9) (cs := [10, 11, 12, 15, 16, 37, 38, 39]) rfl (by kernel_rfl) (by kernel_rfl) (by kernel_rfl) (by kernel_rfl) rfl (by kernel_rfl) (fun _ _ _ h => h) hH (by kernel_rfl) (by intro w hSw; (try dsimp only at hSw); go_simp; (try with_reducible rfl)) ?_
              try simp only [Act.put, List.setIfInBounds_toArray, List.set_cons_zero, List.set_cons_succ]
              refine AnyT.take (i := 10) (cs := [11, 12, 15, 16, 37, 38, 39]) rfl (by kernel_rfl) (by kernel_rfl) (by kernel_rfl) (by kernel_rfl) rfl (by kernel_rfl) (fun _ _ _ h => h) hH (by kernel_rfl) (by intro w hSw; (try dsimp only at hSw); go_simp; (try with_reducible rfl)) ?_
              try simp only [Act.put, List.setIfInBounds_toArray, List.set_cons_zero, List.set_cons_succ]
              refine AnyT.take (i := 11) (cs := [12, 15, 16, 37, 38, 39]) rfl (by kernel_rfl) (by kernel_rfl) (by kernel_rfl) (by kernel_rfl) rfl (by kernel_rfl) (fun _ _ _ h => h) hH (by kernel_rfl) (by intro w hSw; (try dsimp only at hSw); go_simp; (try with_reducible rfl)) ?_
              try simp only [Act.put, List.setIfInBounds_toArray, List.set_cons_zero, List.set_cons_succ]
              refine AnyT.take (i := 12) (cs := [15, 16, 37, 38, 39]) rfl (by kernel_rfl) (by kernel_rfl) (by kernel_rfl) (by kernel_rfl) rfl (by kernel_rfl) (fun _ _ _ h => h) hH (by kernel_rfl) (by intro w hSw; (try dsimp only at hSw); go_simp; (try with_reducible rfl)) ?_
              try simp only [Act.put, List.setIfInBounds_toArray, List.set_cons_zero, List.set_cons_succ]
              refine AnyT.take (i := 13) (cs := [14, 15, 16, 37, 38, 39]) rfl (by kernel_rfl) (by kernel_rfl) (by kernel_rfl) (by kernel_rfl) rfl (by kernel_rfl) (fun _ _ _ h => h) hH (by kernel_rfl) (by intro w hSw; (try dsimp only at hSw); go_simp; (try with_reducible rfl)) ?_
              try simp only [Act.put, List.setIfInBounds_toArray, List.set_cons_zero, List.set_cons_succ]
              refine AnyT.take (i := 14) (cs := [15, 16, 37, 38, 39]) rfl (by kernel_rfl) (by kernel_rfl) (by kernel_rfl) (by kernel_rfl) rfl (by kernel_rfl) (fun _ _ _ h => h) hH (by kernel_rfl) (by intro w hSw; (try dsimp only at hSw); go_simp; (try with_reducible rfl)) ?_
              try simp only [Act.put, List.setIfInBounds_toArray, List.set_cons_zero, List.set_cons_succ]
              refine AnyT.take (i := 15) (cs := [16, 37, 38, 39]) rfl (by kernel_rfl) (by kernel_rfl) (by kernel_rfl) (by kernel_rfl) rfl (by kernel_rfl) (fun _ _ _ h => h) hH (by kernel_rfl) (by intro w hSw; (try dsimp only at hSw); go_simp; (try with_reducible rfl)) ?_
              try simp only [Act.put, List.setIfInBounds_toArray, List.set_cons_zero, List.set_cons_succ]
              refine AnyT.take (i := 16) (cs := [37, 38, 39]) rfl (by kernel_rfl) (by kernel_rfl) (by kernel_rfl) (by kernel_rfl) rfl (by kernel_rfl) (fun _ _ _ h => h) hH (by kernel_rfl) (by intro w hSw; (try dsimp only at hSw); go_simp; (try with_reducible rfl)) ?_
              try simp only [Act.put, List.setIfInBounds_toArray, List.set_cons_zero, List.set_cons_succ]
              refine AnyT.take (i := 17) (cs := [20, 21, 22, 25, 26, 36, 37, 38, 39]) rfl (by kernel_rfl) (by kernel_rfl) (by kernel_rfl) (by kernel_rfl) rfl (by kernel_rfl) (fun _ _ _ h => h) hH (by kernel_rfl) (by intro w hSw; (try dsimp only at hSw); go_simp; (try with_reducible rfl)) ?_
              try simp only [Act.put, List.setIfInBounds_toArray, List.set_cons_zero, List.set_cons_succ]
              refine AnyT.take (i := 18) (cs := [19, 20, 21, 22, 25, 26, 36, 37, 38, 39]) rfl (by kernel_rfl) (by kernel_rfl) (by kernel_rfl) (by kernel_rfl) rfl (by kernel_rfl) (fun _ _ _ h => h) hH (by kernel_rfl) (by intro w hSw; (try dsimp only at hSw); go_simp; (try with_reducible rfl)) ?_
              try simp only [Act.put, List.setIfInBounds_toArray, List.set_cons_zero, List.set_cons_succ]
              refine AnyT.take (i := 19) (cs := [20, 21, 22, 25, 26, 36, 37, 38, 39]) rfl (by kernel_rfl) (by kernel_rfl) (by kernel_rfl) (by kernel_rfl) rfl (by kernel_rfl) (fun _ _ _ h => h) hH (by kernel_rfl) (by intro w hSw; (try dsimp only at hSw); go_simp; (try with_reducible rfl)) ?_
              try simp only [Act.put, List.setIfInBounds_toArray, List.set_cons_zero, List.set_cons_succ]
              refine AnyT.take (i := 20) (cs := [21, 22, 25, 26, 36, 37, 38, 39]) rfl (by kernel_rfl) (by kernel_rfl) (by kernel_rfl) (by kernel_rfl) rfl (by kernel_rfl) (fun _ _ _ h => h) hH (by kernel_rfl) (by intro w hSw; (try dsimp only at hSw); go_simp; (try with_reducible rfl)) ?_
              try simp only [Act.put, List.setIfInBounds_toArray, List.set_cons_zero, List.set_cons_succ]
              refine AnyT.take (i := 21) (cs := [22, 25, 26, 36, 37, 38, 39]) rfl (by kernel_rfl) (by kernel_rfl) (by kernel_rfl) (by kernel_rfl) rfl (by kernel_rfl) (fun _ _ _ h => h) hH (by kernel_rfl) (by intro w hSw; (try dsimp only at hSw); go_simp; (try with_reducible rfl)) ?_
              try simp only [Act.put, List.setIfInBounds_toArray, List.set_cons_zero, List.set_cons_succ]
              refine AnyT.take (i := 22) (cs := [25, 26, 36, 37, 38, 39]) rfl (by kernel_rfl) (by kernel_rfl) (by kernel_rfl) (by kernel_rfl) rfl (by kernel_rfl) (fun _ _ _ h => h) hH (by kernel_rfl) (by intro w hSw; (try dsimp only at hSw); go_simp; (try with_reducible rfl)) ?_
              try simp only [Act.put, List.setIfInBounds_toArray, List.set_cons_zero, List.set_cons_succ]
              refine AnyT.take (i := 23) (cs := [24, 25, 26, 36, 37, 38, 39]) rfl (by kernel_rfl) (by kernel_rfl) (by kernel_rfl) (by kernel_rfl) rfl (by kernel_rfl) (fun _ _ _ h => h) hH (by kernel_rfl) (by intro w hSw; (try dsimp only at hSw); go_simp; (try with_reducible rfl)) ?_
              try simp only [Act.put, List.setIfInBounds_toArray, List.set_cons_zero, List.set_cons_succ]
              refine AnyT.take (i := 24) (cs := [25, 26, 36, 37, 38, 39]) rfl (by kernel_rfl) (by kernel_rfl) (by kernel_rfl) (by kernel_rfl) rfl (by kernel_rfl) (fun _ _ _ h => h) hH (by kernel_rfl) (by intro w hSw; (try dsimp only at hSw); go_simp; (try with_reducible rfl)) ?_
              try simp only [Act.put, List.setIfInBounds_toArray, List.set_cons_zero, List.set_cons_succ]
              refine AnyT.take (i := 25) (cs := [26, 36, 37, 38, 39]) rfl (by kernel_rfl) (by kernel_rfl) (by kernel_rfl) (by kernel_rfl) rfl (by kernel_rfl) (fun _ _ _ h => h) hH (by kernel_rfl) (by intro w hSw; (try dsimp only at hSw); go_simp; (try with_reducible rfl)) ?_
              try simp only [Act.put, List.setIfInBounds_toArray, List.set_cons_zero, List.set_cons_succ]
              refine AnyT.take (i := 26) (cs := [36, 37, 38, 39]) rfl (by kernel_rfl) (by kernel_rfl) (by kernel_rfl) (by kernel_rfl) rfl (by kernel_rfl) (fun _ _ _ h => h) hH (by kernel_rfl) (by intro w hSw; (try dsimp only at hSw); go_simp; (try with_reducible rfl)) ?_
              try simp only [Act.put, List.setIfInBounds_toArray, List.set_cons_zero, List.set_cons_succ]
              refine AnyT.skip (i := 27) (cs := [28, 35, 36, 37, 38, 39]) rfl (by kernel_rfl) (by kernel_rfl) (by kernel_rfl) (by kernel_rfl) rfl (by kernel_rfl) (fun _ _ _ h => h) hH (by kernel_rfl) ?_
              try simp only [Act.put, List.setIfInBounds_toArray, List.set_cons_zero, List.set_cons_succ]
              refine AnyT.skip (i := 28) (cs := [35, 36, 37, 38, 39]) rfl (by kernel_rfl) (by kernel_rfl) (by kernel_rfl) (by kernel_rfl) rfl (by kernel_rfl) (fun _ _ _ h => h) hH (by kernel_rfl) ?_
              try simp only [Act.put, List.setIfInBounds_toArray, List.set_cons_zero, List.set_cons_succ]
              refine AnyT.skip (i := 29) (cs := [32, 33, 34, 35, 36, 37, 38, 39]) rfl (by kernel_rfl) (by kernel_rfl) (by kernel_rfl) (by kernel_rfl) rfl (by kernel_rfl) (fun _ _ _ h => h) hH (by kernel_rfl) ?_
              try simp only [Act.put, List.setIfInBounds_toArray, List.set_cons_zero, List.set_cons_succ]
              refine AnyT.skip (i := 30) (cs := [31, 32, 33, 34, 35, 36, 37, 38, 39]) rfl (by kernel_rfl) (by kernel_rfl) (by kernel_rfl) (by kernel_rfl) rfl (by kernel_rfl) (fun _ _ _ h => h) hH (by kernel_rfl) ?_
              try simp only [Act.put, List.setIfInBounds_toArray, List.set_cons_zero, List.set_cons_succ]
              refine AnyT.skip (i := 31) (cs := [32, 33, 34, 35, 36, 37, 38, 39]) rfl (by kernel_rfl) (by kernel_rfl) (by kernel_rfl) (by kernel_rfl) rfl (by kernel_rfl) (fun _ _ _ h => h) hH (by kernel_rfl) ?_
              try simp only [Act.put, List.setIfInBounds_toArray, List.set_cons_zero, List.set_cons_succ]
              refine AnyT.skip (i := 32) (cs := [33, 34, 35, 36, 37, 38, 39]) rfl (by kernel_rfl) (by kernel_rfl) (by kernel_rfl) (by kernel_rfl) rfl (by kernel_rfl) (fun _ _ _ h => h) hH (by kernel_rfl) ?_
              try simp only [Act.put, List.setIfInBounds_toArray, List.set_cons_zero, List.set_cons_succ]
              refine AnyT.skip (i := 33) (cs := [34, 35, 36, 37, 38, 39]) rfl (by kernel_rfl) (by kernel_rfl) (by kernel_rfl) (by kernel_rfl) rfl (by kernel_rfl) (fun _ _ _ h => h) hH (by kernel_rfl) ?_
              try simp only [Act.put, List.setIfInBounds_toArray, List.set_cons_zero, List.set_cons_succ]
              refine AnyT.skip (i := 34) (cs := [35, 36, 37, 38, 39]) rfl (by kernel_rfl) (by kernel_rfl) (by kernel_rfl) (by kernel_rfl) rfl (by kernel_rfl) (fun _ _ _ h => h) hH (by kernel_rfl) ?_
              try simp only [Act.put, List.setIfInBounds_toArray, List.set_cons_zero, List.set_cons_succ]
              refine AnyT.skip (i := 35) (cs := [36, 37, 38, 39]) rfl (by kernel_rfl) (by kernel_rfl) (by kernel_rfl) (by kernel_rfl) rfl (by kernel_rfl) (fun _ _ _ h => h) hH (by kernel_rfl) ?_
              try simp only [Act.put, List.setIfInBounds_toArray, List.set_cons_zero, List.set_cons_succ]
              refine AnyT.take (i := 36) (cs := [37, 38, 39]) rfl (by kernel_rfl) (by kernel_rfl) (by kernel_rfl) (by kernel_rfl) rfl (by kernel_rfl) (fun _ _ _ h => h) hH (by kernel_rfl) (by intro w hSw; (try dsimp only at hSw); go_simp; (try with_reducible rfl)) ?_
              try simp only [Act.put, List.setIfInBounds_toArray, List.set_cons_zero, List.set_cons_succ]
              refine AnyT.take (i := 37) (cs := [38, 39]) rfl (by kernel_rfl) (by kernel_rfl) (by kernel_rfl) (by kernel_rfl) rfl (by kernel_rfl) (fun _ _ _ h => h) hH (by kernel_rfl) (by intro w hSw; (try dsimp only at hSw); go_simp; (try with_reducible rfl)) ?_
              try simp only [Act.put, List.setIfInBounds_toArray, List.set_cons_zero, List.set_cons_succ]
              refine AnyT.take (i := 38) (cs := [39]) rfl (by kernel_rfl) (by kernel_rfl) (by kernel_rfl) (by kernel_rfl) rfl (by kernel_rfl) (fun _ _ _ h => h) hH (by kernel_rfl) (by intro w hSw; (try dsimp only at hSw); go_simp; (try with_reducible rfl)) ?_
              try simp only [Act.put, List.setIfInBounds_toArray, List.set_cons_zero, List.set_cons_succ]
              refine AnyT.last (by kernel_rfl) rfl (by kernel_rfl) (fun K hK => ?_)
              go_simp
              refine hK.out _ _ ?_
              clear hK
              try simp only [Act.put, List.setIfInBounds_toArray, List.set_cons_zero, List.set_cons_succ]
              have hGv := hG0.trans hgr1
              have hgb9 : gb < v1.heap.size := by have := hgr1.size; omega
              have HK := Lib.hid (inlK_succ HL.out HQ.out HB.out)
              by_cases a5 : x.Level = 0
              · have a5b : (x.Level == 0) = true := by simp [a5]
                clear a5
                rw [a5b] at HK
                go_wp2_with (fail)
                go_loopw [5, 62] (fun v a wr => ∃ (i : Nat) (b : Bool), v = .bool b ∧ a = .int .i64 i ∧ i ≤ (j + 1) ∧ Hid (Gro v1 wr) ∧ Hid (inlAny x b ((rs.take (j + 1)).drop i) = inlK rs (j + 1) x)) (fun _ a _ => (j + 1) - (intOf a).toNat)
                case atStart => exact ⟨0, true, rfl, rfl, Nat.zero_le _, Lib.hid gG, Lib.hid (by rw [HK.out]; rfl)⟩
                case round =>
                  obtain ⟨i, b, rfl, rfl, hi, hG2, hA2⟩ := hrel
                  obtain ⟨os2, d2, rfl⟩ := hG2.out
                  clear hG2
                  have z0 := gro_keeps z0 os2 d2
                  have z1 := gro_keeps z1 os2 d2
                  have z2 := gro_keeps z2 os2 d2
                  have z3 := gro_keeps z3 os2 d2
                  have z4 := gro_keeps z4 os2 d2
                  by_cases hlt2 : i < (j + 1)
                  · obtain ⟨g', off', y, hA', _, hyk, m0, m1, m2, m3, m4, _, _, _, _, _⟩ := atInline hx (k := i) (by omega)
                    injection hA' with hA'
                    injection hA' with q1 q2
                    subst q1 q2
                    have m0 := gro_keeps (grow_cell hGv m0) os2 d2
                    have m1 := gro_keeps (grow_cell hGv m1) os2 d2
                    have m2 := gro_keeps (grow_cell hGv m2) os2 d2
                    have m3 := gro_keeps (grow_cell hGv m3) os2 d2
                    have m4 := gro_keeps (grow_cell hGv m4) os2 d2
                    have HY := Lib.hid hyk
                    have hii : (i : Int) < ((j : Int) + 1) := by omega
                    have hir : (i : Int) < (rs.length : Int) := by omega
                    have hlw : IntKind.i64.wrap (x.Level - 1) = x.Level - 1 := IntWalk.i64_in _ ⟨by omega, by omega⟩
                    clear hyk
                    cases b with
                    | true =>
                      go_wp2_with (fail)
                      go_roundw
                      case measure => (simp [intOf]; try omega)
                      case rel => exact ⟨i + 1, true, rfl, by go_num, by omega, Lib.hid gG, Lib.hid (by rw [← hA2.out, inlAny_at HY.out hlt2]; rfl)⟩
                    | false =>
                      by_cases a6 : y.Level = x.Level - 1
                      · have a6b : (y.Level == x.Level - 1) = true := by simp [a6]
                        clear a6
                        by_cases a7 : y.Start ≤ x.Start
                        · have a7b : decide (y.Start ≤ x.Start) = true := decide_eq_true a7
                          by_cases a8 : x.End ≤ y.End
                          · have a8b : decide (x.End ≤ y.End) = true := decide_eq_true a8
                            go_wp2_with (fail)
                            go_roundw
                            case measure => (simp [intOf]; try omega)
                            case rel => exact ⟨i + 1, true, rfl, by go_num, by omega, Lib.hid gG, Lib.hid (by rw [← hA2.out, inlAny_at HY.out hlt2, show inlIn x y = true from by unfold inlIn; rw [a6b, a7b, a8b]; rfl]; rfl)⟩
                          · have a8b : decide (x.End ≤ y.End) = false := decide_eq_false a8
                            go_wp2_with (fail)
                            go_roundw
                            case measure => (simp [intOf]; try omega)
                            case rel => exact ⟨i + 1, false, rfl, by go_num, by omega, Lib.hid gG, Lib.hid (by rw [← hA2.out, inlAny_at HY.out hlt2, show inlIn x y = false from by unfold inlIn; rw [a6b, a7b, a8b]; rfl]; rfl)⟩
                        · have a7b : decide (y.Start ≤ x.Start) = false := decide_eq_false a7
                          go_wp2_with (fail)
                          go_roundw
                          case measure => (simp [intOf]; try omega)
                          case rel => exact ⟨i + 1, false, rfl, by go_num, by omega, Lib.hid gG, Lib.hid (by rw [← hA2.out, inlAny_at HY.out hlt2, show inlIn x y = false from by unfold inlIn; rw [a6b, a7b]; rfl]; rfl)⟩
                      · have a6b : (y.Level == x.Level - 1) = false := by simp [a6]
                        clear a6
                        go_wp2_with (fail)
                        go_roundw
                        case measure => (simp [intOf]; try omega)
                        case rel => exact ⟨i + 1, false, rfl, by go_num, by omega, Lib.hid gG, Lib.hid (by rw [← hA2.out, inlAny_at HY.out hlt2, show inlIn x y = false from by unfold inlIn; rw [a6b]; rfl]; rfl)⟩
                  · have hii : ¬ ((i : Int) < ((j : Int) + 1)) := by omega
                    have hA3 := hA2.out
                    rw [inlAny_end (by omega)] at hA3
                    have HZ := Lib.hid hA3
                    clear hA3
                    cases b with
                    | true =>
                      go_wp2_with (fail)
                      go_roundw
                      case measure => (simp [intOf]; try omega)
                      case rel => exact ⟨(j + 1) + 1, by go_num, by omega, Lib.hid (hGv.trans gG), Lib.hid (by rw [← hE.out, inlG_at HX.out, ← HZ.out]; rfl)⟩
                    | false =>
                      go_wp2_with (fail)
                      go_ret
                      exact ⟨ret_bool (by rw [← hE.out, inlG_at HX.out, ← HZ.out]; rfl), hGv.trans gG⟩
              · have a5b : (x.Level == 0) = false := by simp [a5]
                clear a5
                rw [a5b] at HK
                go_wp2_with (fail)
                go_loopw [5, 62] (fun v a wr => ∃ (i : Nat) (b : Bool), v = .bool b ∧ a = .int .i64 i ∧ i ≤ (j + 1) ∧ Hid (Gro v1 wr) ∧ Hid (inlAny x b ((rs.take (j + 1)).drop i) = inlK rs (j + 1) x)) (fun _ a _ => (j + 1) - (intOf a).toNat)
                case atStart => exact ⟨0, false, rfl, rfl, Nat.zero_le _, Lib.hid gG, Lib.hid (by rw [HK.out]; rfl)⟩
                case round =>
                  obtain ⟨i, b, rfl, rfl, hi, hG2, hA2⟩ := hrel
                  obtain ⟨os2, d2, rfl⟩ := hG2.out
                  clear hG2
                  have z0 := gro_keeps z0 os2 d2
                  have z1 := gro_keeps z1 os2 d2
                  have z2 := gro_keeps z2 os2 d2
                  have z3 := gro_keeps z3 os2 d2
                  have z4 := gro_keeps z4 os2 d2
                  by_cases hlt2 : i < (j + 1)
                  · obtain ⟨g', off', y, hA', _, hyk, m0, m1, m2, m3, m4, _, _, _, _, _⟩ := atInline hx (k := i) (by omega)
                    injection hA' with hA'
                    injection hA' with q1 q2
                    subst q1 q2
                    have m0 := gro_keeps (grow_cell hGv m0) os2 d2
                    have m1 := gro_keeps (grow_cell hGv m1) os2 d2
                    have m2 := gro_keeps (grow_cell hGv m2) os2 d2
                    have m3 := gro_keeps (grow_cell hGv m3) os2 d2
                    have m4 := gro_keeps (grow_cell hGv m4) os2 d2
                    have HY := Lib.hid hyk
                    have hii : (i : Int) < ((j : Int) + 1) := by omega
                    have hir : (i : Int) < (rs.length : Int) := by omega
                    have hlw : IntKind.i64.wrap (x.Level - 1) = x.Level - 1 := IntWalk.i64_in _ ⟨by omega, by omega⟩
                    clear hyk
                    cases b with
                    | true =>
                      go_wp2_with (fail)
                      go_roundw
                      case measure => (simp [intOf]; try omega)
                      case rel => exact ⟨i + 1, true, rfl, by go_num, by omega, Lib.hid gG, Lib.hid (by rw [← hA2.out, inlAny_at HY.out hlt2]; rfl)⟩
                    | false =>
                      by_cases a6 : y.Level = x.Level - 1
                      · have a6b : (y.Level == x.Level - 1) = true := by simp [a6]
                        clear a6
                        by_cases a7 : y.Start ≤ x.Start
                        · have a7b : decide (y.Start ≤ x.Start) = true := decide_eq_true a7
                          by_cases a8 : x.End ≤ y.End
                          · have a8b : decide (x.End ≤ y.End) = true := decide_eq_true a8
                            go_wp2_with (fail)
                            go_roundw
                            case measure => (simp [intOf]; try omega)
                            case rel => exact ⟨i + 1, true, rfl, by go_num, by omega, Lib.hid gG, Lib.hid (by rw [← hA2.out, inlAny_at HY.out hlt2, show inlIn x y = true from by unfold inlIn; rw [a6b, a7b, a8b]; rfl]; rfl)⟩
                          · have a8b : decide (x.End ≤ y.End) = false := decide_eq_false a8
                            go_wp2_with (fail)
                            go_roundw
                            case measure => (simp [intOf]; try omega)
                            case rel => exact ⟨i + 1, false, rfl, by go_num, by omega, Lib.hid gG, Lib.hid (by rw [← hA2.out, inlAny_at HY.out hlt2, show inlIn x y = false from by unfold inlIn; rw [a6b, a7b, a8b]; rfl]; rfl)⟩
                        · have a7b : decide (y.Start ≤ x.Start) = false := decide_eq_false a7
                          go_wp2_with (fail)
                          go_roundw
                          case measure => (simp [intOf]; try omega)
                          case rel => exact ⟨i + 1, false, rfl, by go_num, by omega, Lib.hid gG, Lib.hid (by rw [← hA2.out, inlAny_at HY.out hlt2, show inlIn x y = false from by unfold inlIn; rw [a6b, a7b]; rfl]; rfl)⟩
                      · have a6b : (y.Level == x.Level - 1) = false := by simp [a6]
                        clear a6
                        go_wp2_with (fail)
                        go_roundw
                        case measure => (simp [intOf]; try omega)
                        case rel => exact ⟨i + 1, false, rfl, by go_num, by omega, Lib.hid gG, Lib.hid (by rw [← hA2.out, inlAny_at HY.out hlt2, show inlIn x y = false from by unfold inlIn; rw [a6b]; rfl]; rfl)⟩
                  · have hii : ¬ ((i : Int) < ((j : Int) + 1)) := by omega
                    have hA3 := hA2.out
                    rw [inlAny_end (by omega)] at hA3
                    have HZ := Lib.hid hA3
                    clear hA3
                    cases b with
                    | true =>
                      go_wp2_with (fail)
                      go_roundw
                      case measure => (simp [intOf]; try omega)
                      case rel => exact ⟨(j + 1) + 1, by go_num, by omega, Lib.hid (hGv.trans gG), Lib.hid (by rw [← hE.out, inlG_at HX.out, ← HZ.out]; rfl)⟩
                    | false =>
                      go_wp2_with (fail)
                      go_ret
                      exact ⟨ret_bool (by rw [← hE.out, inlG_at HX.out, ← HZ.out]; rfl), hGv.trans gG⟩
    · have hki : ¬ ((k : Int) < (rs.length : Int)) := by omega
      go_wp2_with (fail)
      go_ret
      refine ⟨ret_bool ?_, gG⟩
      rw [← hE.out, show k = rs.length from by omega, List.drop_length]
      rfl
end Go.Proofs.YtgodpjnbhmahaaaGreat
namespace Go.Proofs.YtgodpjnbhmahaaaGreat
open Go.RowKit
set_option maxRecDepth 100000 in
set_option maxHeartbeats 4000000 in
theorem inlinesOk_s {rs : List DInline} {w : World} {A : Option Addr} {c : Nat} (hx : (tInline.sl 260).R w w.heap.size [.slice A rs.length c] rs) :
    Calls Tryz.prog 249 #[.slice A rs.length c] w fun e w' => e = .returned (.bool (inlinesOk rs)) ∧ Gro w w' := by
  obtain ⟨_, _, hx', h1, h2⟩ := sl_at hx
  injection hx' with e1 e2 e3
  subst e1 e3
  clear e2
  go_enter Tryz.func249, Tryz.ntmps249
  go_wp2
  go_loopw [3] (fun a wr => ∃ k : Nat, a = .int .i64 k ∧ k ≤ rs.length ∧ Hid (Gro w wr) ∧ Hid (inlG rs k (rs.drop k) = inlinesOk rs)) (fun a _ => rs.length - (intOf a).toNat)
  case atStart => exact ⟨0, rfl, Nat.zero_le _, Lib.hid (Gro.refl _), Lib.hid rfl⟩
  case round =>
    obtain ⟨k, rfl, hk, hG, hE⟩ := hrel
    obtain ⟨os, d, rfl⟩ := hG.out
    clear hG
    by_cases hlt : k < rs.length
    · obtain ⟨g, off, x, hA, hgb, hxk, x0, x1, x2, x3, x4, bs, be, bl, bi, bn⟩ := atInline hx hlt
      have HX := Lib.hid hxk
      have x0 := gro_keeps x0 os d
      have x1 := gro_keeps x1 os d
      have x2 := gro_keeps x2 os d
      have x3 := gro_keeps x3 os d
      have x4 := gro_keeps x4 os d
      have hki : (k : Int) < (rs.length : Int) := by omega
      clear hxk
      subst hA
      cases k with
      | zero =>
        simp only [Nat.zero_mul, Nat.add_zero] at x0 x1 x2 x3 x4
        have hz : ¬ ((0 : Int) < ((0 : Nat) : Int)) := by omega
        go_upto_region 5 with (fail)
        have hG0 : Gro w ((gro w os d).alloc (.cells #[.int .i64 x.Start, .int .i64 x.End, .int .i64 x.Level, .int .i64 x.Line, .string x.Name] 260)) := gG
        have eb := heap_alloc_new (gro w os d) (.cells #[.int .i64 x.Start, .int .i64 x.End, .int .i64 x.Level, .int .i64 x.Line, .string x.Name] 260)
        obtain ⟨gb, hgb2⟩ : ∃ g, w.heap.size + os.size = g := ⟨_, rfl⟩
        rw [show (gro w os d).heap.size = w.heap.size + os.size from by simp, hgb2] at eb
        try rw [hgb2]
        clear x0 x1 x2 x3 x4
        generalize (gro w os d).alloc (.cells #[.int .i64 x.Start, .int .i64 x.End, .int .i64 x.Level, .int .i64 x.Line, .string x.Name] 260) = Y at hG0 eb ⊢
        obtain ⟨z0, z1, z2, z3, z4, zf, zl⟩ := row5 eb
        by_cases d1 : x.Start < 0
        · have d1b : decide (x.Start < 0) = true := decide_eq_true d1
          have HL := Lib.hid (show inl1 x = false from by unfold inl1; rw [show decide (0 ≤ x.Start) = false from decide_eq_false (by omega)]; simp)
          have HR := Lib.hid (show inlK rs 0 x = false from inlK_one HL.out)
          go_wp2_with (fail)
          go_ret
          exact ⟨ret_bool (by rw [← hE.out, inlG_at HX.out, HR.out]; rfl), hG0.trans gG⟩
        · have d1b : decide (x.Start < 0) = false := decide_eq_false d1
          have c1 : decide (0 ≤ x.Start) = true := decide_eq_true (by omega)
          by_cases d2 : x.End ≤ x.Start
          · have d2b : decide (x.End ≤ x.Start) = true := decide_eq_true d2
            have HL := Lib.hid (show inl1 x = false from by unfold inl1; rw [show decide (x.Start < x.End) = false from decide_eq_false (by omega)]; simp)
            have HR := Lib.hid (show inlK rs 0 x = false from inlK_one HL.out)
            go_wp2_with (fail)
            go_ret
            exact ⟨ret_bool (by rw [← hE.out, inlG_at HX.out, HR.out]; rfl), hG0.trans gG⟩
          · have d2b : decide (x.End ≤ x.Start) = false := decide_eq_false d2
            have c2 : decide (x.Start < x.End) = true := decide_eq_true (by omega)
            by_cases d3 : 1000000 < x.End
            · have d3b : decide (1000000 < x.End) = true := decide_eq_true d3
              have HL := Lib.hid (show inl1 x = false from by unfold inl1; rw [show decide (x.End ≤ 1000000) = false from decide_eq_false (by omega)]; simp)
              have HR := Lib.hid (show inlK rs 0 x = false from inlK_one HL.out)
              go_wp2_with (fail)
              go_ret
              exact ⟨ret_bool (by rw [← hE.out, inlG_at HX.out, HR.out]; rfl), hG0.trans gG⟩
            · have d3b : decide (1000000 < x.End) = false := decide_eq_false d3
              have c3 : decide (x.End ≤ 1000000) = true := decide_eq_true (by omega)
              obtain ⟨b4, hb4⟩ : ∃ b, btw x.Level 0 2 = b := ⟨_, rfl⟩
              have HB4 := Lib.hid hb4
              clear hb4
              cases b4 with
              | false =>
                have HL := Lib.hid (show inl1 x = false from by unfold inl1; rw [HB4.out]; simp)
                have HR := Lib.hid (show inlK rs 0 x = false from inlK_one HL.out)
                go_wp2_with (first | (go_at_call 78; (with_reducible refine (in_s x.Level 0 2 _).mono ?_); rw [HB4.out]; rintro e w1 ⟨rfl, rfl⟩))
                go_ret
                exact ⟨ret_bool (by rw [← hE.out, inlG_at HX.out, HR.out]; rfl), hG0.trans gG⟩
              | true =>
                obtain ⟨b5, hb5⟩ : ∃ b, btw x.Line 0 59 = b := ⟨_, rfl⟩
                have HB5 := Lib.hid hb5
                clear hb5
                cases b5 with
                | false =>
                  have HL := Lib.hid (show inl1 x = false from by unfold inl1; rw [HB5.out]; simp)
                  have HR := Lib.hid (show inlK rs 0 x = false from inlK_one HL.out)
                  go_wp2_with (first | (go_at_call 78; (with_reducible refine (in_s x.Level 0 2 _).mono ?_); rw [HB4.out]; rintro e w1 ⟨rfl, rfl⟩) | (go_at_call 78; (with_reducible refine (in_s x.Line 0 59 _).mono ?_); rw [HB5.out]; rintro e w1 ⟨rfl, rfl⟩))
                  go_ret
                  exact ⟨ret_bool (by rw [← hE.out, inlG_at HX.out, HR.out]; rfl), hG0.trans gG⟩
                | true =>
                  obtain ⟨b6, hb6⟩ : ∃ b, nameOk x.Name = b := ⟨_, rfl⟩
                  have HB6 := Lib.hid hb6
                  clear hb6
                  cases b6 with
                  | false =>
                    have HL := Lib.hid (show inl1 x = false from by unfold inl1; rw [HB6.out]; simp)
                    have HR := Lib.hid (show inlK rs 0 x = false from inlK_one HL.out)
                    go_wp2_with (first | (go_at_call 78; (with_reducible refine (in_s x.Level 0 2 _).mono ?_); rw [HB4.out]; rintro e w1 ⟨rfl, rfl⟩) | (go_at_call 78; (with_reducible refine (in_s x.Line 0 59 _).mono ?_); rw [HB5.out]; rintro e w1 ⟨rfl, rfl⟩) | (go_at_call 267; (with_reducible refine (nameOk_s x.Name _ bn).mono ?_); rw [HB6.out]; rintro e w1 ⟨rfl, rfl⟩))
                    go_ret
                    exact ⟨ret_bool (by rw [← hE.out, inlG_at HX.out, HR.out]; rfl), hG0.trans gG⟩
                  | true =>
                    have HL := Lib.hid (show inl1 x = true from by unfold inl1; rw [c1, c2, c3, HB4.out, HB5.out, HB6.out]; rfl)
                    have hlv := inl1_lev HL.out
                    go_wp2_with (first | (go_at_call 78; (with_reducible refine (in_s x.Level 0 2 _).mono ?_); rw [HB4.out]; rintro e w1 ⟨rfl, rfl⟩) | (go_at_call 78; (with_reducible refine (in_s x.Line 0 59 _).mono ?_); rw [HB5.out]; rintro e w1 ⟨rfl, rfl⟩) | (go_at_call 267; (with_reducible refine (nameOk_s x.Name _ bn).mono ?_); rw [HB6.out]; rintro e w1 ⟨rfl, rfl⟩))
                    go_quiet (fail)
                    have hGv := hG0
                    have HK := Lib.hid (inlK_zero (all := rs) HL.out)
                    by_cases a5 : x.Level = 0
                    · have a5b : (x.Level == 0) = true := by simp [a5]
                      clear a5
                      rw [a5b] at HK
                      go_wp2_with (fail)
                      go_loopw [5, 6] (fun v a wr => ∃ (i : Nat) (b : Bool), v = .bool b ∧ a = .int .i64 i ∧ i ≤ 0 ∧ Hid (Gro Y wr) ∧ Hid (inlAny x b ((rs.take 0).drop i) = inlK rs 0 x)) (fun _ a _ => 0 - (intOf a).toNat)
                      case atStart => exact ⟨0, true, rfl, rfl, Nat.zero_le _, Lib.hid gG, Lib.hid (by rw [HK.out]; rfl)⟩
                      case round =>
                        obtain ⟨i, b, rfl, rfl, hi, hG2, hA2⟩ := hrel
                        obtain ⟨os2, d2, rfl⟩ := hG2.out
                        clear hG2
                        have z0 := gro_keeps z0 os2 d2
                        have z1 := gro_keeps z1 os2 d2
                        have z2 := gro_keeps z2 os2 d2
                        have z3 := gro_keeps z3 os2 d2
                        have z4 := gro_keeps z4 os2 d2
                        by_cases hlt2 : i < 0
                        · exact absurd hlt2 (Nat.not_lt_zero _)
                        · have hii : ¬ ((i : Int) < ((0 : Nat) : Int)) := by omega
                          have hA3 := hA2.out
                          rw [inlAny_end (by omega)] at hA3
                          have HZ := Lib.hid hA3
                          clear hA3
                          cases b with
                          | true =>
                            go_wp2_with (fail)
                            go_roundw
                            case measure => (simp [intOf]; try omega)
                            case rel => exact ⟨0 + 1, by go_num, by omega, Lib.hid (hGv.trans gG), Lib.hid (by rw [← hE.out, inlG_at HX.out, ← HZ.out]; rfl)⟩
                          | false =>
                            go_wp2_with (fail)
                            go_ret
                            exact ⟨ret_bool (by rw [← hE.out, inlG_at HX.out, ← HZ.out]; rfl), hGv.trans gG⟩
                    · have a5b : (x.Level == 0) = false := by simp [a5]
                      clear a5
                      rw [a5b] at HK
                      go_wp2_with (fail)
                      go_loopw [5, 6] (fun v a wr => ∃ (i : Nat) (b : Bool), v = .bool b ∧ a = .int .i64 i ∧ i ≤ 0 ∧ Hid (Gro Y wr) ∧ Hid (inlAny x b ((rs.take 0).drop i) = inlK rs 0 x)) (fun _ a _ => 0 - (intOf a).toNat)
                      case atStart => exact ⟨0, false, rfl, rfl, Nat.zero_le _, Lib.hid gG, Lib.hid (by rw [HK.out]; rfl)⟩
                      case round =>
                        obtain ⟨i, b, rfl, rfl, hi, hG2, hA2⟩ := hrel
                        obtain ⟨os2, d2, rfl⟩ := hG2.out
                        clear hG2
                        have z0 := gro_keeps z0 os2 d2
                        have z1 := gro_keeps z1 os2 d2
                        have z2 := gro_keeps z2 os2 d2
                        have z3 := gro_keeps z3 os2 d2
                        have z4 := gro_keeps z4 os2 d2
                        by_cases hlt2 : i < 0
                        · exact absurd hlt2 (Nat.not_lt_zero _)
                        · have hii : ¬ ((i : Int) < ((0 : Nat) : Int)) := by omega
                          have hA3 := hA2.out
                          rw [inlAny_end (by omega)] at hA3
                          have HZ := Lib.hid hA3
                          clear hA3
                          cases b with
                          | true =>
                            go_wp2_with (fail)
                            go_roundw
                            case measure => (simp [intOf]; try omega)
                            case rel => exact ⟨0 + 1, by go_num, by omega, Lib.hid (hGv.trans gG), Lib.hid (by rw [← hE.out, inlG_at HX.out, ← HZ.out]; rfl)⟩
                          | false =>
                            go_wp2_with (fail)
                            go_ret
                            exact ⟨ret_bool (by rw [← hE.out, inlG_at HX.out, ← HZ.out]; rfl), hGv.trans gG⟩
      | succ j =>
        obtain ⟨gq, offq, q, hAq, _, hqk, u0, u1, u2, u3, u4, _⟩ := atInline hx (k := j) (by omega)
        injection hAq with hAq
        injection hAq with hq1 hq2
        subst hq1 hq2
        have HQ := Lib.hid hqk
        clear hqk u0 u3 u4
        have hz : (0 : Int) < (j : Int) + 1 := by omega
        have hw1 : IntKind.i64.wrap ((j : Int) + 1 - 1) = (j : Int) := by rw [show (j : Int) + 1 - 1 = (j : Int) from by omega]; exact IntWalk.i64_in _ ⟨by omega, by omega⟩
        have hw0 : IntKind.i64.wrap (j : Int) = (j : Int) := IntWalk.i64_in _ ⟨by omega, by omega⟩
        have hj0 : (0 : Int) ≤ (j : Int) := by omega
        have hji : (j : Int) < (rs.length : Int) := by omega
        go_upto_region 5 with (fail)
        have hG0 : Gro w ((gro w os d).alloc (.cells #[.int .i64 x.Start, .int .i64 x.End, .int .i64 x.Level, .int .i64 x.Line, .string x.Name] 260)) := gG
        have eb := heap_alloc_new (gro w os d) (.cells #[.int .i64 x.Start, .int .i64 x.End, .int .i64 x.Level, .int .i64 x.Line, .string x.Name] 260)
        obtain ⟨gb, hgb2⟩ : ∃ g, w.heap.size + os.size = g := ⟨_, rfl⟩
        rw [show (gro w os d).heap.size = w.heap.size + os.size from by simp, hgb2] at eb
        try rw [hgb2]
        clear x0 x1 x2 x3 x4
        generalize (gro w os d).alloc (.cells #[.int .i64 x.Start, .int .i64 x.End, .int .i64 x.Level, .int .i64 x.Line, .string x.Name] 260) = Y at hG0 eb ⊢
        obtain ⟨z0, z1, z2, z3, z4, zf, zl⟩ := row5 eb
        have u1 := grow_cell hG0 u1
        have u2 := grow_cell hG0 u2
        by_cases d1 : x.Start < 0
        · have d1b : decide (x.Start < 0) = true := decide_eq_true d1
          have HL := Lib.hid (show inl1 x = false from by unfold inl1; rw [show decide (0 ≤ x.Start) = false from decide_eq_false (by omega)]; simp)
          have HR := Lib.hid (show inlK rs (j + 1) x = false from inlK_one HL.out)
          go_wp2_with (fail)
          go_ret
          exact ⟨ret_bool (by rw [← hE.out, inlG_at HX.out, HR.out]; rfl), hG0.trans gG⟩
        · have d1b : decide (x.Start < 0) = false := decide_eq_false d1
          have c1 : decide (0 ≤ x.Start) = true := decide_eq_true (by omega)
          by_cases d2 : x.End ≤ x.Start
          · have d2b : decide (x.End ≤ x.Start) = true := decide_eq_true d2
            have HL := Lib.hid (show inl1 x = false from by unfold inl1; rw [show decide (x.Start < x.End) = false from decide_eq_false (by omega)]; simp)
            have HR := Lib.hid (show inlK rs (j + 1) x = false from inlK_one HL.out)
            go_wp2_with (fail)
            go_ret
            exact ⟨ret_bool (by rw [← hE.out, inlG_at HX.out, HR.out]; rfl), hG0.trans gG⟩
          · have d2b : decide (x.End ≤ x.Start) = false := decide_eq_false d2
            have c2 : decide (x.Start < x.End) = true := decide_eq_true (by omega)
            by_cases d3 : 1000000 < x.End
            · have d3b : decide (1000000 < x.End) = true := decide_eq_true d3
              have HL := Lib.hid (show inl1 x = false from by unfold inl1; rw [show decide (x.End ≤ 1000000) = false from decide_eq_false (by omega)]; simp)
              have HR := Lib.hid (show inlK rs (j + 1) x = false from inlK_one HL.out)
              go_wp2_with (fail)
              go_ret
              exact ⟨ret_bool (by rw [← hE.out, inlG_at HX.out, HR.out]; rfl), hG0.trans gG⟩
            · have d3b : decide (1000000 < x.End) = false := decide_eq_false d3
              have c3 : decide (x.End ≤ 1000000) = true := decide_eq_true (by omega)
              obtain ⟨b4, hb4⟩ : ∃ b, btw x.Level 0 2 = b := ⟨_, rfl⟩
              have HB4 := Lib.hid hb4
              clear hb4
              cases b4 with
              | false =>
                have HL := Lib.hid (show inl1 x = false from by unfold inl1; rw [HB4.out]; simp)
                have HR := Lib.hid (show inlK rs (j + 1) x = false from inlK_one HL.out)
                go_wp2_with (first | (go_at_call 78; (with_reducible refine (in_s x.Level 0 2 _).mono ?_); rw [HB4.out]; rintro e w1 ⟨rfl, rfl⟩))
                go_ret
                exact ⟨ret_bool (by rw [← hE.out, inlG_at HX.out, HR.out]; rfl), hG0.trans gG⟩
              | true =>
                obtain ⟨b5, hb5⟩ : ∃ b, btw x.Line 0 59 = b := ⟨_, rfl⟩
                have HB5 := Lib.hid hb5
                clear hb5
                cases b5 with
                | false =>
                  have HL := Lib.hid (show inl1 x = false from by unfold inl1; rw [HB5.out]; simp)
                  have HR := Lib.hid (show inlK rs (j + 1) x = false from inlK_one HL.out)
                  go_wp2_with (first | (go_at_call 78; (with_reducible refine (in_s x.Level 0 2 _).mono ?_); rw [HB4.out]; rintro e w1 ⟨rfl, rfl⟩) | (go_at_call 78; (with_reducible refine (in_s x.Line 0 59 _).mono ?_); rw [HB5.out]; rintro e w1 ⟨rfl, rfl⟩))
                  go_ret
                  exact ⟨ret_bool (by rw [← hE.out, inlG_at HX.out, HR.out]; rfl), hG0.trans gG⟩
                | true =>
                  obtain ⟨b6, hb6⟩ : ∃ b, nameOk x.Name = b := ⟨_, rfl⟩
                  have HB6 := Lib.hid hb6
                  clear hb6
                  cases b6 with
                  | false =>
                    have HL := Lib.hid (show inl1 x = false from by unfold inl1; rw [HB6.out]; simp)
                    have HR := Lib.hid (show inlK rs (j + 1) x = false from inlK_one HL.out)
                    go_wp2_with (first | (go_at_call 78; (with_reducible refine (in_s x.Level 0 2 _).mono ?_); rw [HB4.out]; rintro e w1 ⟨rfl, rfl⟩) | (go_at_call 78; (with_reducible refine (in_s x.Line 0 59 _).mono ?_); rw [HB5.out]; rintro e w1 ⟨rfl, rfl⟩) | (go_at_call 267; (with_reducible refine (nameOk_s x.Name _ bn).mono ?_); rw [HB6.out]; rintro e w1 ⟨rfl, rfl⟩))
                    go_ret
                    exact ⟨ret_bool (by rw [← hE.out, inlG_at HX.out, HR.out]; rfl), hG0.trans gG⟩
                  | true =>
                    have HL := Lib.hid (show inl1 x = true from by unfold inl1; rw [c1, c2, c3, HB4.out, HB5.out, HB6.out]; rfl)
                    have hlv := inl1_lev HL.out
                    by_cases a1 : x.Level < q.Level
                    · have a1b : decide (x.Level < q.Level) = true := decide_eq_true a1
                      have HR := Lib.hid (show inlK rs (j + 1) x = false from inlK_bad HQ.out (by unfold inlBad; rw [a1b]; rfl))
                      go_wp2_with (first | (go_at_call 78; (with_reducible refine (in_s x.Level 0 2 _).mono ?_); rw [HB4.out]; rintro e w1 ⟨rfl, rfl⟩) | (go_at_call 78; (with_reducible refine (in_s x.Line 0 59 _).mono ?_); rw [HB5.out]; rintro e w1 ⟨rfl, rfl⟩) | (go_at_call 267; (with_reducible refine (nameOk_s x.Name _ bn).mono ?_); rw [HB6.out]; rintro e w1 ⟨rfl, rfl⟩))
                      go_quiet (fail)
                      go_wp2_with (fail)
                      go_ret
                      exact ⟨ret_bool (by rw [← hE.out, inlG_at HX.out, HR.out]; rfl), hG0.trans gG⟩
                    · have a1b : decide (x.Level < q.Level) = false := decide_eq_false a1
                      by_cases a2 : q.Level = x.Level
                      · have a2b : (q.Level == x.Level) = true := by simp [a2]
                        have a2c : (x.Level == q.Level) = true := by simp [a2]
                        clear a2
                        by_cases a3 : x.Start < q.End
                        · have a3b : decide (x.Start < q.End) = true := decide_eq_true a3
                          have HR := Lib.hid (show inlK rs (j + 1) x = false from inlK_bad HQ.out (by unfold inlBad; rw [a1b, a2b, a3b]; rfl))
                          go_wp2_with (first | (go_at_call 78; (with_reducible refine (in_s x.Level 0 2 _).mono ?_); rw [HB4.out]; rintro e w1 ⟨rfl, rfl⟩) | (go_at_call 78; (with_reducible refine (in_s x.Line 0 59 _).mono ?_); rw [HB5.out]; rintro e w1 ⟨rfl, rfl⟩) | (go_at_call 267; (with_reducible refine (nameOk_s x.Name _ bn).mono ?_); rw [HB6.out]; rintro e w1 ⟨rfl, rfl⟩))
                          go_quiet (fail)
                          go_wp2_with (fail)
                          go_ret
                          exact ⟨ret_bool (by rw [← hE.out, inlG_at HX.out, HR.out]; rfl), hG0.trans gG⟩
                        · have a3b : decide (x.Start < q.End) = false := decide_eq_false a3
                          have HB := Lib.hid (show inlBad q x = false from by unfold inlBad; rw [a1b, a2b, a3b]; rfl)
                          go_wp2_with (first | (go_at_call 78; (with_reducible refine (in_s x.Level 0 2 _).mono ?_); rw [HB4.out]; rintro e w1 ⟨rfl, rfl⟩) | (go_at_call 78; (with_reducible refine (in_s x.Line 0 59 _).mono ?_); rw [HB5.out]; rintro e w1 ⟨rfl, rfl⟩) | (go_at_call 267; (with_reducible refine (nameOk_s x.Name _ bn).mono ?_); rw [HB6.out]; rintro e w1 ⟨rfl, rfl⟩))
                          go_quiet (fail)
                          have hGv := hG0
                          have HK := Lib.hid (inlK_succ HL.out HQ.out HB.out)
                          by_cases a5 : x.Level = 0
                          · have a5b : (x.Level == 0) = true := by simp [a5]
                            clear a5
                            rw [a5b] at HK
                            go_wp2_with (fail)
                            go_loopw [5, 6] (fun v a wr => ∃ (i : Nat) (b : Bool), v = .bool b ∧ a = .int .i64 i ∧ i ≤ (j + 1) ∧ Hid (Gro Y wr) ∧ Hid (inlAny x b ((rs.take (j + 1)).drop i) = inlK rs (j + 1) x)) (fun _ a _ => (j + 1) - (intOf a).toNat)
                            case atStart => exact ⟨0, true, rfl, rfl, Nat.zero_le _, Lib.hid gG, Lib.hid (by rw [HK.out]; rfl)⟩
                            case round =>
                              obtain ⟨i, b, rfl, rfl, hi, hG2, hA2⟩ := hrel
                              obtain ⟨os2, d2, rfl⟩ := hG2.out
                              clear hG2
                              have z0 := gro_keeps z0 os2 d2
                              have z1 := gro_keeps z1 os2 d2
                              have z2 := gro_keeps z2 os2 d2
                              have z3 := gro_keeps z3 os2 d2
                              have z4 := gro_keeps z4 os2 d2
                              by_cases hlt2 : i < (j + 1)
                              · obtain ⟨g', off', y, hA', _, hyk, m0, m1, m2, m3, m4, _, _, _, _, _⟩ := atInline hx (k := i) (by omega)
                                injection hA' with hA'
                                injection hA' with q1 q2
                                subst q1 q2
                                have m0 := gro_keeps (grow_cell hGv m0) os2 d2
                                have m1 := gro_keeps (grow_cell hGv m1) os2 d2
                                have m2 := gro_keeps (grow_cell hGv m2) os2 d2
                                have m3 := gro_keeps (grow_cell hGv m3) os2 d2
                                have m4 := gro_keeps (grow_cell hGv m4) os2 d2
                                have HY := Lib.hid hyk
                                have hii : (i : Int) < ((j : Int) + 1) := by omega
                                have hir : (i : Int) < (rs.length : Int) := by omega
                                have hlw : IntKind.i64.wrap (x.Level - 1) = x.Level - 1 := IntWalk.i64_in _ ⟨by omega, by omega⟩
                                clear hyk
                                cases b with
                                | true =>
                                  go_wp2_with (fail)
                                  go_quiet (fail)
                                  go_wp2_with (fail)
                                  go_roundw
                                  case measure => (simp [intOf]; try omega)
                                  case rel => exact ⟨i + 1, true, rfl, by go_num, by omega, Lib.hid gG, Lib.hid (by rw [← hA2.out, inlAny_at HY.out hlt2]; rfl)⟩
                                | false =>
                                  by_cases a6 : y.Level = x.Level - 1
                                  · have a6b : (y.Level == x.Level - 1) = true := by simp [a6]
                                    clear a6
                                    by_cases a7 : y.Start ≤ x.Start
                                    · have a7b : decide (y.Start ≤ x.Start) = true := decide_eq_true a7
                                      by_cases a8 : x.End ≤ y.End
                                      · have a8b : decide (x.End ≤ y.End) = true := decide_eq_true a8
                                        go_wp2_with (fail)
                                        go_quiet (fail)
                                        go_wp2_with (fail)
                                        go_roundw
                                        case measure => (simp [intOf]; try omega)
                                        case rel => exact ⟨i + 1, true, rfl, by go_num, by omega, Lib.hid gG, Lib.hid (by rw [← hA2.out, inlAny_at HY.out hlt2, show inlIn x y = true from by unfold inlIn; rw [a6b, a7b, a8b]; rfl]; rfl)⟩
                                      · have a8b : decide (x.End ≤ y.End) = false := decide_eq_false a8
                                        go_wp2_with (fail)
                                        go_quiet (fail)
                                        go_wp2_with (fail)
                                        go_roundw
                                        case measure => (simp [intOf]; try omega)
                                        case rel => exact ⟨i + 1, false, rfl, by go_num, by omega, Lib.hid gG, Lib.hid (by rw [← hA2.out, inlAny_at HY.out hlt2, show inlIn x y = false from by unfold inlIn; rw [a6b, a7b, a8b]; rfl]; rfl)⟩
                                    · have a7b : decide (y.Start ≤ x.Start) = false := decide_eq_false a7
                                      go_wp2_with (fail)
                                      go_quiet (fail)
                                      go_wp2_with (fail)
                                      go_roundw
                                      case measure => (simp [intOf]; try omega)
                                      case rel => exact ⟨i + 1, false, rfl, by go_num, by omega, Lib.hid gG, Lib.hid (by rw [← hA2.out, inlAny_at HY.out hlt2, show inlIn x y = false from by unfold inlIn; rw [a6b, a7b]; rfl]; rfl)⟩
                                  · have a6b : (y.Level == x.Level - 1) = false := by simp [a6]
                                    clear a6
                                    go_wp2_with (fail)
                                    go_quiet (fail)
                                    go_wp2_with (fail)
                                    go_roundw
                                    case measure => (simp [intOf]; try omega)
                                    case rel => exact ⟨i + 1, false, rfl, by go_num, by omega, Lib.hid gG, Lib.hid (by rw [← hA2.out, inlAny_at HY.out hlt2, show inlIn x y = false from by unfold inlIn; rw [a6b]; rfl]; rfl)⟩
                              · have hii : ¬ ((i : Int) < ((j : Int) + 1)) := by omega
                                have hA3 := hA2.out
                                rw [inlAny_end (by omega)] at hA3
                                have HZ := Lib.hid hA3
                                clear hA3
                                cases b with
                                | true =>
                                  go_wp2_with (fail)
                                  go_roundw
                                  case measure => (simp [intOf]; try omega)
                                  case rel => exact ⟨(j + 1) + 1, by go_num, by omega, Lib.hid (hGv.trans gG), Lib.hid (by rw [← hE.out, inlG_at HX.out, ← HZ.out]; rfl)⟩
                                | false =>
                                  go_wp2_with (fail)
                                  go_ret
                                  exact ⟨ret_bool (by rw [← hE.out, inlG_at HX.out, ← HZ.out]; rfl), hGv.trans gG⟩
                          · have a5b : (x.Level == 0) = false := by simp [a5]
                            clear a5
                            rw [a5b] at HK
                            go_wp2_with (fail)
                            go_loopw [5, 6] (fun v a wr => ∃ (i : Nat) (b : Bool), v = .bool b ∧ a = .int .i64 i ∧ i ≤ (j + 1) ∧ Hid (Gro Y wr) ∧ Hid (inlAny x b ((rs.take (j + 1)).drop i) = inlK rs (j + 1) x)) (fun _ a _ => (j + 1) - (intOf a).toNat)
                            case atStart => exact ⟨0, false, rfl, rfl, Nat.zero_le _, Lib.hid gG, Lib.hid (by rw [HK.out]; rfl)⟩
                            case round =>
                              obtain ⟨i, b, rfl, rfl, hi, hG2, hA2⟩ := hrel
                              obtain ⟨os2, d2, rfl⟩ := hG2.out
                              clear hG2
                              have z0 := gro_keeps z0 os2 d2
                              have z1 := gro_keeps z1 os2 d2
                              have z2 := gro_keeps z2 os2 d2
                              have z3 := gro_keeps z3 os2 d2
                              have z4 := gro_keeps z4 os2 d2
                              by_cases hlt2 : i < (j + 1)
                              · obtain ⟨g', off', y, hA', _, hyk, m0, m1, m2, m3, m4, _, _, _, _, _⟩ := atInline hx (k := i) (by omega)
                                injection hA' with hA'
                                injection hA' with q1 q2
                                subst q1 q2
                                have m0 := gro_keeps (grow_cell hGv m0) os2 d2
                                have m1 := gro_keeps (grow_cell hGv m1) os2 d2
                                have m2 := gro_keeps (grow_cell hGv m2) os2 d2
                                have m3 := gro_keeps (grow_cell hGv m3) os2 d2
                                have m4 := gro_keeps (grow_cell hGv m4) os2 d2
                                have HY := Lib.hid hyk
                                have hii : (i : Int) < ((j : Int) + 1) := by omega
                                have hir : (i : Int) < (rs.length : Int) := by omega
                                have hlw : IntKind.i64.wrap (x.Level - 1) = x.Level - 1 := IntWalk.i64_in _ ⟨by omega, by omega⟩
                                clear hyk
                                cases b with
                                | true =>
                                  go_wp2_with (fail)
                                  go_quiet (fail)
                                  go_wp2_with (fail)
                                  go_roundw
                                  case measure => (simp [intOf]; try omega)
                                  case rel => exact ⟨i + 1, true, rfl, by go_num, by omega, Lib.hid gG, Lib.hid (by rw [← hA2.out, inlAny_at HY.out hlt2]; rfl)⟩
                                | false =>
                                  by_cases a6 : y.Level = x.Level - 1
                                  · have a6b : (y.Level == x.Level - 1) = true := by simp [a6]
                                    clear a6
                                    by_cases a7 : y.Start ≤ x.Start
                                    · have a7b : decide (y.Start ≤ x.Start) = true := decide_eq_true a7
                                      by_cases a8 : x.End ≤ y.End
                                      · have a8b : decide (x.End ≤ y.End) = true := decide_eq_true a8
                                        go_wp2_with (fail)
                                        go_quiet (fail)
                                        go_wp2_with (fail)
                                        go_roundw
                                        case measure => (simp [intOf]; try omega)
                                        case rel => exact ⟨i + 1, true, rfl, by go_num, by omega, Lib.hid gG, Lib.hid (by rw [← hA2.out, inlAny_at HY.out hlt2, show inlIn x y = true from by unfold inlIn; rw [a6b, a7b, a8b]; rfl]; rfl)⟩
                                      · have a8b : decide (x.End ≤ y.End) = false := decide_eq_false a8
                                        go_wp2_with (fail)
                                        go_quiet (fail)
                                        go_wp2_with (fail)
                                        go_roundw
                                        case measure => (simp [intOf]; try omega)
                                        case rel => exact ⟨i + 1, false, rfl, by go_num, by omega, Lib.hid gG, Lib.hid (by rw [← hA2.out, inlAny_at HY.out hlt2, show inlIn x y = false from by unfold inlIn; rw [a6b, a7b, a8b]; rfl]; rfl)⟩
                                    · have a7b : decide (y.Start ≤ x.Start) = false := decide_eq_false a7
                                      go_wp2_with (fail)
                                      go_quiet (fail)
                                      go_wp2_with (fail)
                                      go_roundw
                                      case measure => (simp [intOf]; try omega)
                                      case rel => exact ⟨i + 1, false, rfl, by go_num, by omega, Lib.hid gG, Lib.hid (by rw [← hA2.out, inlAny_at HY.out hlt2, show inlIn x y = false from by unfold inlIn; rw [a6b, a7b]; rfl]; rfl)⟩
                                  · have a6b : (y.Level == x.Level - 1) = false := by simp [a6]
                                    clear a6
                                    go_wp2_with (fail)
                                    go_quiet (fail)
                                    go_wp2_with (fail)
                                    go_roundw
                                    case measure => (simp [intOf]; try omega)
                                    case rel => exact ⟨i + 1, false, rfl, by go_num, by omega, Lib.hid gG, Lib.hid (by rw [← hA2.out, inlAny_at HY.out hlt2, show inlIn x y = false from by unfold inlIn; rw [a6b]; rfl]; rfl)⟩
                              · have hii : ¬ ((i : Int) < ((j : Int) + 1)) := by omega
                                have hA3 := hA2.out
                                rw [inlAny_end (by omega)] at hA3
                                have HZ := Lib.hid hA3
                                clear hA3
                                cases b with
                                | true =>
                                  go_wp2_with (fail)
                                  go_roundw
                                  case measure => (simp [intOf]; try omega)
                                  case rel => exact ⟨(j + 1) + 1, by go_num, by omega, Lib.hid (hGv.trans gG), Lib.hid (by rw [← hE.out, inlG_at HX.out, ← HZ.out]; rfl)⟩
                                | false =>
                                  go_wp2_with (fail)
                                  go_ret
                                  exact ⟨ret_bool (by rw [← hE.out, inlG_at HX.out, ← HZ.out]; rfl), hGv.trans gG⟩
                      · have a2b : (q.Level == x.Level) = false := by simp [a2]
                        have a2c : (x.Level == q.Level) = false := by simp; omega
                        clear a2
                        have HB := Lib.hid (show inlBad q x = false from by unfold inlBad; rw [a1b, a2b]; rfl)
                        go_wp2_with (first | (go_at_call 78; (with_reducible refine (in_s x.Level 0 2 _).mono ?_); rw [HB4.out]; rintro e w1 ⟨rfl, rfl⟩) | (go_at_call 78; (with_reducible refine (in_s x.Line 0 59 _).mono ?_); rw [HB5.out]; rintro e w1 ⟨rfl, rfl⟩) | (go_at_call 267; (with_reducible refine (nameOk_s x.Name _ bn).mono ?_); rw [HB6.out]; rintro e w1 ⟨rfl, rfl⟩))
                        go_quiet (fail)
                        have hGv := hG0
                        have HK := Lib.hid (inlK_succ HL.out HQ.out HB.out)
                        by_cases a5 : x.Level = 0
                        · have a5b : (x.Level == 0) = true := by simp [a5]
                          clear a5
                          rw [a5b] at HK
                          go_wp2_with (fail)
                          go_loopw [5, 6] (fun v a wr => ∃ (i : Nat) (b : Bool), v = .bool b ∧ a = .int .i64 i ∧ i ≤ (j + 1) ∧ Hid (Gro Y wr) ∧ Hid (inlAny x b ((rs.take (j + 1)).drop i) = inlK rs (j + 1) x)) (fun _ a _ => (j + 1) - (intOf a).toNat)
                          case atStart => exact ⟨0, true, rfl, rfl, Nat.zero_le _, Lib.hid gG, Lib.hid (by rw [HK.out]; rfl)⟩
                          case round =>
                            obtain ⟨i, b, rfl, rfl, hi, hG2, hA2⟩ := hrel
                            obtain ⟨os2, d2, rfl⟩ := hG2.out
                            clear hG2
                            have z0 := gro_keeps z0 os2 d2
                            have z1 := gro_keeps z1 os2 d2
                            have z2 := gro_keeps z2 os2 d2
                            have z3 := gro_keeps z3 os2 d2
                            have z4 := gro_keeps z4 os2 d2
                            by_cases hlt2 : i < (j + 1)
                            · obtain ⟨g', off', y, hA', _, hyk, m0, m1, m2, m3, m4, _, _, _, _, _⟩ := atInline hx (k := i) (by omega)
                              injection hA' with hA'
                              injection hA' with q1 q2
                              subst q1 q2
                              have m0 := gro_keeps (grow_cell hGv m0) os2 d2
                              have m1 := gro_keeps (grow_cell hGv m1) os2 d2
                              have m2 := gro_keeps (grow_cell hGv m2) os2 d2
                              have m3 := gro_keeps (grow_cell hGv m3) os2 d2
                              have m4 := gro_keeps (grow_cell hGv m4) os2 d2
                              have HY := Lib.hid hyk
                              have hii : (i : Int) < ((j : Int) + 1) := by omega
                              have hir : (i : Int) < (rs.length : Int) := by omega
                              have hlw : IntKind.i64.wrap (x.Level - 1) = x.Level - 1 := IntWalk.i64_in _ ⟨by omega, by omega⟩
                              clear hyk
                              cases b with
                              | true =>
                                go_wp2_with (fail)
                                go_quiet (fail)
                                go_wp2_with (fail)
                                go_roundw
                                case measure => (simp [intOf]; try omega)
                                case rel => exact ⟨i + 1, true, rfl, by go_num, by omega, Lib.hid gG, Lib.hid (by rw [← hA2.out, inlAny_at HY.out hlt2]; rfl)⟩
                              | false =>
                                by_cases a6 : y.Level = x.Level - 1
                                · have a6b : (y.Level == x.Level - 1) = true := by simp [a6]
                                  clear a6
                                  by_cases a7 : y.Start ≤ x.Start
                                  · have a7b : decide (y.Start ≤ x.Start) = true := decide_eq_true a7
                                    by_cases a8 : x.End ≤ y.End
                                    · have a8b : decide (x.End ≤ y.End) = true := decide_eq_true a8
                                      go_wp2_with (fail)
                                      go_quiet (fail)
                                      go_wp2_with (fail)
                                      go_roundw
                                      case measure => (simp [intOf]; try omega)
                                      case rel => exact ⟨i + 1, true, rfl, by go_num, by omega, Lib.hid gG, Lib.hid (by rw [← hA2.out, inlAny_at HY.out hlt2, show inlIn x y = true from by unfold inlIn; rw [a6b, a7b, a8b]; rfl]; rfl)⟩
                                    · have a8b : decide (x.End ≤ y.End) = false := decide_eq_false a8
                                      go_wp2_with (fail)
                                      go_quiet (fail)
                                      go_wp2_with (fail)
                                      go_roundw
                                      case measure => (simp [intOf]; try omega)
                                      case rel => exact ⟨i + 1, false, rfl, by go_num, by omega, Lib.hid gG, Lib.hid (by rw [← hA2.out, inlAny_at HY.out hlt2, show inlIn x y = false from by unfold inlIn; rw [a6b, a7b, a8b]; rfl]; rfl)⟩
                                  · have a7b : decide (y.Start ≤ x.Start) = false := decide_eq_false a7
                                    go_wp2_with (fail)
                                    go_quiet (fail)
                                    go_wp2_with (fail)
                                    go_roundw
                                    case measure => (simp [intOf]; try omega)
                                    case rel => exact ⟨i + 1, false, rfl, by go_num, by omega, Lib.hid gG, Lib.hid (by rw [← hA2.out, inlAny_at HY.out hlt2, show inlIn x y = false from by unfold inlIn; rw [a6b, a7b]; rfl]; rfl)⟩
                                · have a6b : (y.Level == x.Level - 1) = false := by simp [a6]
                                  clear a6
                                  go_wp2_with (fail)
                                  go_quiet (fail)
                                  go_wp2_with (fail)
                                  go_roundw
                                  case measure => (simp [intOf]; try omega)
                                  case rel => exact ⟨i + 1, false, rfl, by go_num, by omega, Lib.hid gG, Lib.hid (by rw [← hA2.out, inlAny_at HY.out hlt2, show inlIn x y = false from by unfold inlIn; rw [a6b]; rfl]; rfl)⟩
                            · have hii : ¬ ((i : Int) < ((j : Int) + 1)) := by omega
                              have hA3 := hA2.out
                              rw [inlAny_end (by omega)] at hA3
                              have HZ := Lib.hid hA3
                              clear hA3
                              cases b with
                              | true =>
                                go_wp2_with (fail)
                                go_roundw
                                case measure => (simp [intOf]; try omega)
                                case rel => exact ⟨(j + 1) + 1, by go_num, by omega, Lib.hid (hGv.trans gG), Lib.hid (by rw [← hE.out, inlG_at HX.out, ← HZ.out]; rfl)⟩
                              | false =>
                                go_wp2_with (fail)
                                go_ret
                                exact ⟨ret_bool (by rw [← hE.out, inlG_at HX.out, ← HZ.out]; rfl), hGv.trans gG⟩
                        · have a5b : (x.Level == 0) = false := by simp [a5]
                          clear a5
                          rw [a5b] at HK
                          go_wp2_with (fail)
                          go_loopw [5, 6] (fun v a wr => ∃ (i : Nat) (b : Bool), v = .bool b ∧ a = .int .i64 i ∧ i ≤ (j + 1) ∧ Hid (Gro Y wr) ∧ Hid (inlAny x b ((rs.take (j + 1)).drop i) = inlK rs (j + 1) x)) (fun _ a _ => (j + 1) - (intOf a).toNat)
                          case atStart => exact ⟨0, false, rfl, rfl, Nat.zero_le _, Lib.hid gG, Lib.hid (by rw [HK.out]; rfl)⟩
                          case round =>
                            obtain ⟨i, b, rfl, rfl, hi, hG2, hA2⟩ := hrel
                            obtain ⟨os2, d2, rfl⟩ := hG2.out
                            clear hG2
                            have z0 := gro_keeps z0 os2 d2
                            have z1 := gro_keeps z1 os2 d2
                            have z2 := gro_keeps z2 os2 d2
                            have z3 := gro_keeps z3 os2 d2
                            have z4 := gro_keeps z4 os2 d2
                            by_cases hlt2 : i < (j + 1)
                            · obtain ⟨g', off', y, hA', _, hyk, m0, m1, m2, m3, m4, _, _, _, _, _⟩ := atInline hx (k := i) (by omega)
                              injection hA' with hA'
                              injection hA' with q1 q2
                              subst q1 q2
                              have m0 := gro_keeps (grow_cell hGv m0) os2 d2
                              have m1 := gro_keeps (grow_cell hGv m1) os2 d2
                              have m2 := gro_keeps (grow_cell hGv m2) os2 d2
                              have m3 := gro_keeps (grow_cell hGv m3) os2 d2
                              have m4 := gro_keeps (grow_cell hGv m4) os2 d2
                              have HY := Lib.hid hyk
                              have hii : (i : Int) < ((j : Int) + 1) := by omega
                              have hir : (i : Int) < (rs.length : Int) := by omega
                              have hlw : IntKind.i64.wrap (x.Level - 1) = x.Level - 1 := IntWalk.i64_in _ ⟨by omega, by omega⟩
                              clear hyk
                              cases b with
                              | true =>
                                go_wp2_with (fail)
                                go_quiet (fail)
                                go_wp2_with (fail)
                                go_roundw
                                case measure => (simp [intOf]; try omega)
                                case rel => exact ⟨i + 1, true, rfl, by go_num, by omega, Lib.hid gG, Lib.hid (by rw [← hA2.out, inlAny_at HY.out hlt2]; rfl)⟩
                              | false =>
                                by_cases a6 : y.Level = x.Level - 1
                                · have a6b : (y.Level == x.Level - 1) = true := by simp [a6]
                                  clear a6
                                  by_cases a7 : y.Start ≤ x.Start
                                  · have a7b : decide (y.Start ≤ x.Start) = true := decide_eq_true a7
                                    by_cases a8 : x.End ≤ y.End
                                    · have a8b : decide (x.End ≤ y.End) = true := decide_eq_true a8
                                      go_wp2_with (fail)
                                      go_quiet (fail)
                                      go_wp2_with (fail)
                                      go_roundw
                                      case measure => (simp [intOf]; try omega)
                                      case rel => exact ⟨i + 1, true, rfl, by go_num, by omega, Lib.hid gG, Lib.hid (by rw [← hA2.out, inlAny_at HY.out hlt2, show inlIn x y = true from by unfold inlIn; rw [a6b, a7b, a8b]; rfl]; rfl)⟩
                                    · have a8b : decide (x.End ≤ y.End) = false := decide_eq_false a8
                                      go_wp2_with (fail)
                                      go_quiet (fail)
                                      go_wp2_with (fail)
                                      go_roundw
                                      case measure => (simp [intOf]; try omega)
                                      case rel => exact ⟨i + 1, false, rfl, by go_num, by omega, Lib.hid gG, Lib.hid (by rw [← hA2.out, inlAny_at HY.out hlt2, show inlIn x y = false from by unfold inlIn; rw [a6b, a7b, a8b]; rfl]; rfl)⟩
                                  · have a7b : decide (y.Start ≤ x.Start) = false := decide_eq_false a7
                                    go_wp2_with (fail)
                                    go_quiet (fail)
                                    go_wp2_with (fail)
                                    go_roundw
                                    case measure => (simp [intOf]; try omega)
                                    case rel => exact ⟨i + 1, false, rfl, by go_num, by omega, Lib.hid gG, Lib.hid (by rw [← hA2.out, inlAny_at HY.out hlt2, show inlIn x y = false from by unfold inlIn; rw [a6b, a7b]; rfl]; rfl)⟩
                                · have a6b : (y.Level == x.Level - 1) = false := by simp [a6]
                                  clear a6
                                  go_wp2_with (fail)
                                  go_quiet (fail)
                                  go_wp2_with (fail)
                                  go_roundw
                                  case measure => (simp [intOf]; try omega)
                                  case rel => exact ⟨i + 1, false, rfl, by go_num, by omega, Lib.hid gG, Lib.hid (by rw [← hA2.out, inlAny_at HY.out hlt2, show inlIn x y = false from by unfold inlIn; rw [a6b]; rfl]; rfl)⟩
                            · have hii : ¬ ((i : Int) < ((j : Int) + 1)) := by omega
                              have hA3 := hA2.out
                              rw [inlAny_end (by omega)] at hA3
                              have HZ := Lib.hid hA3
                              clear hA3
                              cases b with
                              | true =>
                                go_wp2_with (fail)
                                go_roundw
                                case measure => (simp [intOf]; try omega)
                                case rel => exact ⟨(j + 1) + 1, by go_num, by omega, Lib.hid (hGv.trans gG), Lib.hid (by rw [← hE.out, inlG_at HX.out, ← HZ.out]; rfl)⟩
                              | false =>
                                go_wp2_with (fail)
                                go_ret
                                exact ⟨ret_bool (by rw [← hE.out, inlG_at HX.out, ← HZ.out]; rfl), hGv.trans gG⟩
    · have hki : ¬ ((k : Int) < (rs.length : Int)) := by omega
      go_wp2_with (fail)
      go_ret
      refine ⟨ret_bool ?_, gG⟩
      rw [← hE.out, show k = rs.length from by omega, List.drop_length]
      rfl
end Go.Proofs.YtgodpjnbhmahaaaGreat
namespace Go.Proofs.YtgodpjnbhmahaaaGreat
open Go.RowKit
def RetIn (xs : List DInline) (w : World) (r : Ending) (w' : World) : Prop := ∃ A c S, r = .returned (.slice A xs.length c) ∧ Has (tInline.sl 260) w' [.slice A xs.length c] xs S ∧ (∀ b ∈ S, w.heap.size ≤ b) ∧ Gro w w'
theorem RetIn.mk {xs ys : List DInline} {w w' : World} {A : Option Addr} {n c : Nat} {S : List Nat} (h : Has (tInline.sl 260) w' [.slice A n c] ys S) (he : ys = xs) (hn : n = ys.length) (hS : ∀ b ∈ S, w.heap.size ≤ b) (hg : Gro w w') : RetIn xs w (.returned (.slice A n c)) w' := by
  subst he hn
  exact ⟨A, c, S, rfl, h, hS, hg⟩
theorem RetIn.nil {xs : List DInline} {w w' : World} (he : xs = []) (hg : Gro w w') : RetIn xs w (.returned (.slice none 0 0)) w' := by
  subst he
  exact ⟨none, 0, [], rfl, Has.nil _ _ _, by simp, hg⟩
theorem inl_filter_no {rs : List DInline} {k : Nat} {x : DInline} {p : DInline → Bool} (h : rs[k]? = some x) (hp : p x = false) : (rs.drop k).filter p = (rs.drop (k + 1)).filter p := by
  obtain ⟨h1, rfl⟩ := List.getElem?_eq_some_iff.1 h
  rw [List.drop_eq_getElem_cons h1, List.filter_cons_of_neg (by simp [hp])]
theorem inl_filter_yes {rs : List DInline} {k : Nat} {x : DInline} {off : Int} (h : rs[k]? = some x) (h1 : decide (x.Start ≤ off) = true) (h2 : decide (off < x.End) = true) : (rs.drop k).filter (fun x => decide (x.Start ≤ off) && decide (off < x.End)) = x :: (rs.drop (k + 1)).filter (fun x => decide (x.Start ≤ off) && decide (off < x.End)) := by
  obtain ⟨h3, rfl⟩ := List.getElem?_eq_some_iff.1 h
  rw [List.drop_eq_getElem_cons h3, List.filter_cons_of_pos (by simp only [h1, h2]; rfl)]
set_option maxRecDepth 100000 in
set_option maxHeartbeats 4000000 in
theorem inlinesAt_i {rs : List DInline} {off : Int} {w : World} {A : Option Addr} {c : Nat} (hx : (tInline.sl 260).R w w.heap.size [.slice A rs.length c] rs) (hn : rs.length ≤ 1099511627776) :
    Calls Tryz.prog 342 #[.slice A rs.length c, .int .i64 off] w (RetIn (inlinesAt rs off) w) := by
  obtain ⟨_, _, hx', h1, h2⟩ := sl_at hx
  injection hx' with e1 e2 e3
  subst e1 e3
  clear e2
  obtain ⟨q, hq⟩ : ∃ q, inlinesOk rs = q := ⟨_, rfl⟩
  have HQ := Lib.hid hq
  cases q with
  | false =>
    have HF := Lib.hid (show inlinesAt rs off = [] from by unfold inlinesAt; rw [hq]; rfl)
    clear hq
    go_enter Tryz.func342, Tryz.ntmps342
    go_wp2_with (go_at_call 233; (with_reducible refine (inlinesOk_i (rs := rs) hx).mono ?_); rw [HQ.out]; rintro e v1 ⟨rfl, hg1⟩)
    exact bodyPost_ret (v := .slice none 0 0) (by simp [results, Tryz.results342, go_sem]) rfl (RetIn.nil HF.out hg1)
  | true =>
    have HF := Lib.hid (show inlinesAt rs off = rs.filter (fun x => decide (x.Start ≤ off) && decide (off < x.End)) from by unfold inlinesAt; rw [hq]; rfl)
    clear hq
    go_enter Tryz.func342, Tryz.ntmps342
    go_wp2_with (go_at_call 233; (with_reducible refine (inlinesOk_i (rs := rs) hx).mono ?_); rw [HQ.out]; rintro e v1 ⟨rfl, hg1⟩)
    go_loopw [5, 14] (fun z a wr => ∃ (k : Nat) (ys : List DInline) (A7 : Option Addr) (c7 : Nat) (S : List Nat), z = .slice A7 ys.length c7 ∧ a = .int .i64 k ∧ k ≤ rs.length ∧ Hid (Gro w wr) ∧ Hid (Has (tInline.sl 260) wr [.slice A7 ys.length c7] ys S) ∧ Hid (∀ b ∈ S, w.heap.size ≤ b) ∧ Hid (ys ++ (rs.drop k).filter (fun x => decide (x.Start ≤ off) && decide (off < x.End)) = rs.filter (fun x => decide (x.Start ≤ off) && decide (off < x.End)))) (fun _ a _ => rs.length - (intOf a).toNat)
    case atStart =>
      exact ⟨0, [], _, 0, [v1.heap.size], rfl, rfl, Nat.zero_le _, Lib.hid (hg1.trans gG), Lib.hid (Has.emp tInline (heap_alloc_new _ _)), Lib.hid (fun b hb => by simp at hb; have := hg1.size; omega), Lib.hid (by simp)⟩
    case round =>
      obtain ⟨k, ys, A7, c7, S, rfl, rfl, hk, hG, hH, hS, hE⟩ := hrel
      have hyl : ys.length ≤ rs.length := by
        have h := congrArg List.length hE.out
        have h2 := List.length_filter_le (fun x : DInline => decide (x.Start ≤ off) && decide (off < x.End)) rs
        rw [List.length_append] at h
        omega
      by_cases hlt : k < rs.length
      · obtain ⟨g, offx, x, hA, hgb, hxk, x0, x1, x2, x3, x4, bs, be, bl, bi, bn⟩ := atInline hx hlt
        have HX := Lib.hid hxk
        have hxR : tInline.R w w.heap.size [.int .i64 x.Start, .int .i64 x.End, .int .i64 x.Level, .int .i64 x.Line, .string x.Name] x := tInline_mkR bs be bl bi bn
        have x0 := grow_cell hG.out x0
        have x1 := grow_cell hG.out x1
        have x2 := grow_cell hG.out x2
        have x3 := grow_cell hG.out x3
        have x4 := grow_cell hG.out x4
        have hki : (k : Int) < (rs.length : Int) := by omega
        clear hxk
        subst hA
        by_cases a1 : x.Start ≤ off
        · have a1b : decide (x.Start ≤ off) = true := decide_eq_true a1
          by_cases a2 : off < x.End
          · have a2b : decide (off < x.End) = true := decide_eq_true a2
            go_wp2_with (refine wpList_append_hasf (L := ys.length + 1) (y := x) rfl (.tmp 28) (.tmp 30) elInline flatInline (S := S) (hH.out.gro gF) (ec := [.int .i64 x.Start, .int .i64 x.End, .int .i64 x.Level, .int .i64 x.Line, .string x.Name]) (W1 := w) (B := w.heap.size) hxR rfl rfl rfl (by intro j u hu; simpa [go_sem] using hu) rfl (by omega) (by omega) ?_; intro A8 c8 W8 S8 hon hH8 hS8)
            go_roundw
            case measure => (simp [intOf]; try omega)
            case rel =>
              refine ⟨k + 1, ys ++ [x], A8, c8, S8, by simp, by go_num, by omega, Lib.hid (hon.gro (hG.out.trans gG) hS.out), Lib.hid (by simpa using hH8), Lib.hid (fun b hb => ?_), Lib.hid (by rw [← hE.out, inl_filter_yes HX.out a1b a2b]; simp)⟩
              rcases hS8 b hb with h | h
              · exact hS.out b h
              · have := hG.out.size; simp at h; omega
          · have a2b : decide (off < x.End) = false := decide_eq_false a2
            go_wp2_with (fail)
            go_roundw
            case measure => (simp [intOf]; try omega)
            case rel => exact ⟨k + 1, ys, A7, c7, S, rfl, by go_num, by omega, Lib.hid (hG.out.trans gG), Lib.hid (hH.out.gro gF), hS, Lib.hid (by rw [← hE.out, inl_filter_no HX.out (by rw [a2b]; simp)])⟩
        · have a1b : decide (x.Start ≤ off) = false := decide_eq_false a1
          go_wp2_with (fail)
          go_roundw
          case measure => (simp [intOf]; try omega)
          case rel => exact ⟨k + 1, ys, A7, c7, S, rfl, by go_num, by omega, Lib.hid (hG.out.trans gG), Lib.hid (hH.out.gro gF), hS, Lib.hid (by rw [← hE.out, inl_filter_no HX.out (by rw [a1b]; simp)])⟩
      · have hki : ¬ ((k : Int) < (rs.length : Int)) := by omega
        have hE2 := hE.out
        rw [show k = rs.length from by omega, List.drop_length, List.filter_nil, List.append_nil] at hE2
        have HE2 := Lib.hid (hE2.trans HF.out.symm)
        clear hE2
        go_wp2_with (fail)
        exact bodyPost_ret (v := .slice A7 ys.length c7) (by simp [results, Tryz.results342, go_sem]) rfl (RetIn.mk hH.out HE2.out rfl hS.out (hG.out.trans gG))
set_option maxRecDepth 100000 in
set_option maxHeartbeats 4000000 in
theorem inlinesAt_s {rs : List DInline} {off : Int} {w : World} {A : Option Addr} {c : Nat} (hx : (tInline.sl 260).R w w.heap.size [.slice A rs.length c] rs) (hn : rs.length ≤ 1099511627776) :
    Calls Tryz.prog 289 #[.slice A rs.length c, .int .i64 off] w (RetIn (inlinesAt rs off) w) := by
  obtain ⟨_, _, hx', h1, h2⟩ := sl_at hx
  injection hx' with e1 e2 e3
  subst e1 e3
  clear e2
  obtain ⟨q, hq⟩ : ∃ q, inlinesOk rs = q := ⟨_, rfl⟩
  have HQ := Lib.hid hq
  cases q with
  | false =>
    have HF := Lib.hid (show inlinesAt rs off = [] from by unfold inlinesAt; rw [hq]; rfl)
    clear hq
    go_enter Tryz.func289, Tryz.ntmps289
    go_wp2_with (go_at_call 249; (with_reducible refine (inlinesOk_s (rs := rs) (Ty.up _ hx gG)).mono ?_); rw [HQ.out]; rintro e v1 ⟨rfl, hg1⟩)
    go_loopw [5, 7] (fun z a wr => z = .slice (some ⟨w.heap.size, 0, none⟩) 0 0 ∧ a = .int .i64 0 ∧ wr = v1) (fun _ _ _ => 0)
    case atStart => exact ⟨rfl, rfl, rfl⟩
    case round =>
      obtain ⟨rfl, rfl, rfl⟩ := hrel
      have hem := Has.emp tInline (heap_alloc_new w (.cells #[] 260))
      by_cases hn0 : (0 : Int) < (rs.length : Int)
      · go_wp2_with (fail)
        exact bodyPost_ret (v := .slice (some ⟨w.heap.size, 0, none⟩) 0 0) (by simp [results, Tryz.results289, go_sem]) rfl (RetIn.mk (hem.gro hg1) HF.out.symm rfl (fun b hb => by simp at hb; omega) ((Gro.refl w).alloc _ |>.trans hg1))
      · go_wp2_with (fail)
        exact bodyPost_ret (v := .slice (some ⟨w.heap.size, 0, none⟩) 0 0) (by simp [results, Tryz.results289, go_sem]) rfl (RetIn.mk (hem.gro hg1) HF.out.symm rfl (fun b hb => by simp at hb; omega) ((Gro.refl w).alloc _ |>.trans hg1))
  | true =>
    have HF := Lib.hid (show inlinesAt rs off = rs.filter (fun x => decide (x.Start ≤ off) && decide (off < x.End)) from by unfold inlinesAt; rw [hq]; rfl)
    clear hq
    go_enter Tryz.func289, Tryz.ntmps289
    go_wp2_with (go_at_call 249; (with_reducible refine (inlinesOk_s (rs := rs) (Ty.up _ hx gG)).mono ?_); rw [HQ.out]; rintro e v1 ⟨rfl, hg1⟩)
    go_loopw [5, 7] (fun z a wr => ∃ (k : Nat) (ys : List DInline) (A7 : Option Addr) (c7 : Nat) (S : List Nat), z = .slice A7 ys.length c7 ∧ a = .int .i64 k ∧ k ≤ rs.length ∧ Hid (Gro w wr) ∧ Hid (Has (tInline.sl 260) wr [.slice A7 ys.length c7] ys S) ∧ Hid (∀ b ∈ S, w.heap.size ≤ b) ∧ Hid (ys ++ (rs.drop k).filter (fun x => decide (x.Start ≤ off) && decide (off < x.End)) = rs.filter (fun x => decide (x.Start ≤ off) && decide (off < x.End)))) (fun _ a _ => rs.length - (intOf a).toNat)
    case atStart =>
      exact ⟨0, [], _, 0, [w.heap.size], rfl, rfl, Nat.zero_le _, Lib.hid ((Gro.refl w).alloc _ |>.trans hg1), Lib.hid ((Has.emp tInline (heap_alloc_new w (.cells #[] 260))).gro hg1), Lib.hid (fun b hb => by simp at hb; omega), Lib.hid (by simp)⟩
    case round =>
      obtain ⟨k, ys, A7, c7, S, rfl, rfl, hk, hG, hH, hS, hE⟩ := hrel
      have hyl : ys.length ≤ rs.length := by
        have h := congrArg List.length hE.out
        have h2 := List.length_filter_le (fun x : DInline => decide (x.Start ≤ off) && decide (off < x.End)) rs
        rw [List.length_append] at h
        omega
      by_cases hlt : k < rs.length
      · obtain ⟨g, offx, x, hA, hgb, hxk, x0, x1, x2, x3, x4, bs, be, bl, bi, bn⟩ := atInline hx hlt
        have HX := Lib.hid hxk
        have hxR : tInline.R w w.heap.size [.int .i64 x.Start, .int .i64 x.End, .int .i64 x.Level, .int .i64 x.Line, .string x.Name] x := tInline_mkR bs be bl bi bn
        have x0 := grow_cell hG.out x0
        have x1 := grow_cell hG.out x1
        have x2 := grow_cell hG.out x2
        have x3 := grow_cell hG.out x3
        have x4 := grow_cell hG.out x4
        have hki : (k : Int) < (rs.length : Int) := by omega
        clear hxk
        subst hA
        by_cases a1 : x.Start ≤ off
        · have a1b : decide (x.Start ≤ off) = true := decide_eq_true a1
          by_cases a2 : off < x.End
          · have a2b : decide (off < x.End) = true := decide_eq_true a2
            go_wp2_with (refine wpList_append_hasf (L := ys.length + 1) (y := x) rfl (.tmp 36) (.tmp 41) elInline flatInline (S := S) (hH.out.gro gF) (ec := [.int .i64 x.Start, .int .i64 x.End, .int .i64 x.Level, .int .i64 x.Line, .string x.Name]) (W1 := w) (B := w.heap.size) hxR rfl rfl rfl (by intro j u hu; simpa [go_sem] using hu) rfl (by omega) (by omega) ?_; intro A8 c8 W8 S8 hon hH8 hS8)
            go_roundw
            case measure => (simp [intOf]; try omega)
            case rel =>
              refine ⟨k + 1, ys ++ [x], A8, c8, S8, by simp, by go_num, by omega, Lib.hid (hon.gro (hG.out.trans gG) hS.out), Lib.hid (by simpa using hH8), Lib.hid (fun b hb => ?_), Lib.hid (by rw [← hE.out, inl_filter_yes HX.out a1b a2b]; simp)⟩
              rcases hS8 b hb with h | h
              · exact hS.out b h
              · have := hG.out.size; simp at h; omega
          · have a2b : decide (off < x.End) = false := decide_eq_false a2
            go_wp2_with (fail)
            go_roundw
            case measure => (simp [intOf]; try omega)
            case rel => exact ⟨k + 1, ys, A7, c7, S, rfl, by go_num, by omega, Lib.hid (hG.out.trans gG), Lib.hid (hH.out.gro gF), hS, Lib.hid (by rw [← hE.out, inl_filter_no HX.out (by rw [a2b]; simp)])⟩
        · have a1b : decide (x.Start ≤ off) = false := decide_eq_false a1
          go_wp2_with (fail)
          go_roundw
          case measure => (simp [intOf]; try omega)
          case rel => exact ⟨k + 1, ys, A7, c7, S, rfl, by go_num, by omega, Lib.hid (hG.out.trans gG), Lib.hid (hH.out.gro gF), hS, Lib.hid (by rw [← hE.out, inl_filter_no HX.out (by rw [a1b]; simp)])⟩
      · have hki : ¬ ((k : Int) < (rs.length : Int)) := by omega
        have hE2 := hE.out
        rw [show k = rs.length from by omega, List.drop_length, List.filter_nil, List.append_nil] at hE2
        have HE2 := Lib.hid (hE2.trans HF.out.symm)
        clear hE2
        go_wp2_with (fail)
        exact bodyPost_ret (v := .slice A7 ys.length c7) (by simp [results, Tryz.results289, go_sem]) rfl (RetIn.mk hH.out HE2.out rfl hS.out (hG.out.trans gG))
end Go.Proofs.YtgodpjnbhmahaaaGreat
