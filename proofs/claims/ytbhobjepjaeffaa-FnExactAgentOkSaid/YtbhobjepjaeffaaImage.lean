/-
  IMAGE: the contracts of ImageOk.
-/
import Derived.Test.YtbhobjepjaeffaaOp4
import Derived.Test.YtbhobjepjaeffaaSpaceLaw
import Derived.Test.YtbhobjepjaeffaaFnSpace
import Derived.BigQuiet
set_option linter.unusedVariables false
set_option linter.unusedSimpArgs false
namespace Go.Proofs.Ytbhobjepjaeffaa
open Go.RowKit
theorem imgF_at {code : ByteArray} {l : List DSymbol} {j a : Nat} {x : DSymbol} {prev : List ByteArray} (h : l[j]? = some x) : imgF code (l.drop j) prev a = (decide (x.Start = (a : Int)) && decide (1 ≤ x.Size) && decide (x.Size ≤ (code.size : Int) - a) && nameOk x.Name && !prev.any (fun y => decide (y = x.Name)) && disOk (code.extract a (a + x.Size.toNat)) 0 && imgF code (l.drop (j + 1)) (prev ++ [x.Name]) (a + x.Size.toNat)) := by
  have hl := (List.getElem?_eq_some_iff.1 h)
  obtain ⟨hl, rfl⟩ := hl
  rw [List.drop_eq_getElem_cons hl]
  rfl
theorem names_take {l : List DSymbol} {j : Nat} {x : DSymbol} (h : l[j]? = some x) : (l.take (j + 1)).map DSymbol.Name = (l.take j).map DSymbol.Name ++ [x.Name] := by
  rw [take_snoc h, List.map_append]
  rfl
set_option maxRecDepth 100000 in
set_option maxHeartbeats 4000000 in
theorem imageOk_i {i : DImage} {w : World} {A : Option Addr} {c : Nat} (h1 : (tSymbol.sl 118).R w w.heap.size [.slice A i.Symbols.length c] i.Symbols) (hs : i.Code.size ≤ 1099511627776) (hn : i.Symbols.length ≤ 1099511627776) :
    Calls Try.prog 85 #[.agg #[.string i.Code, .slice A i.Symbols.length c]] w fun e w' => e = .returned (.bool (imageOk i)) ∧ Gro w w' := by
  obtain ⟨_, _, hx', hxl, hcm⟩ := sl_at h1
  injection hx' with e1 e2 e3
  subst e1 e3
  clear e2
  obtain ⟨code, syms⟩ := i
  simp only at h1 hs hn hxl hcm ⊢
  by_cases hbig : code.size ≤ 1000000
  case neg =>
    have HQ := Lib.hid (show imageOk ⟨code, syms⟩ = false from by simp [imageOk, hbig])
    have hg : decide ((1000000 : Int) < (code.size : Int)) = true := decide_eq_true (by omega)
    go_enter Try.func85, Try.ntmps85
    go_wp2_with (fail)
    go_ret
    exact ⟨ret_bool HQ.out.symm, (by repeat (first | with_reducible exact Gro.refl _ | with_reducible exact Gro.refl_drew _ _ _ | with_reducible exact Gro.refl_drewN _ _ _ _ | assumption | with_reducible apply Gro.more | with_reducible apply Gro.alloc | with_reducible apply Gro.drew | with_reducible apply Gro.drewN))⟩
  have HQ := Lib.hid (show imageOk ⟨code, syms⟩ = imgF code syms [] 0 from by simp [imageOk, hbig])
  have hg : decide ((1000000 : Int) < (code.size : Int)) = false := decide_eq_false (by omega)
  go_enter Try.func85, Try.ntmps85
  go_wp2_with (fail)
  have hG0 : Gro w (w.alloc (.cells #[.string code, .slice A syms.length c] 96)) := (by repeat (first | with_reducible exact Gro.refl _ | with_reducible exact Gro.refl_drew _ _ _ | with_reducible exact Gro.refl_drewN _ _ _ _ | assumption | with_reducible apply Gro.more | with_reducible apply Gro.alloc | with_reducible apply Gro.drew | with_reducible apply Gro.drewN))
  have eb := heap_alloc_new w (.cells #[.string code, .slice A syms.length c] 96)
  have h2 := Ty.up _ h1 hG0
  obtain ⟨g0, hg0⟩ : ∃ g0, w.heap.size = g0 := ⟨_, rfl⟩
  rw [hg0] at eb ⊢
  generalize w.alloc (.cells #[.string code, .slice A syms.length c] 96) = Y at hG0 eb h2 ⊢
  clear h1 hg0
  obtain ⟨y0, y1, _, _, yl⟩ := box2 eb
  go_loopw [3, 17] (fun x y wr => ∃ (j a : Nat), x = .int .i64 a ∧ y = .int .i64 j ∧ j ≤ syms.length ∧ a ≤ code.size ∧ Hid (imgF code (syms.drop j) ((syms.take j).map DSymbol.Name) a = imgF code syms [] 0) ∧ Hid (Gro Y wr)) (fun _ y _ => syms.length - (intOf y).toNat)
  case atStart => exact ⟨0, 0, rfl, rfl, Nat.zero_le _, Nat.zero_le _, Lib.hid rfl, Lib.hid (Gro.refl _)⟩
  case round =>
    obtain ⟨j, a, rfl, rfl, hj, ha, hE, hG⟩ := hrel
    obtain ⟨os, d, rfl⟩ := hG.out
    clear hG
    by_cases hlt : j < syms.length
    · obtain ⟨g, off, x, rfl, hgb, hxk, hx0, hx1, hx2, bx0, bx1, bx2⟩ := atSymbol h2 hlt
      have hF := imgF_at (code := code) (a := a) (prev := (syms.take j).map DSymbol.Name) hxk
      rw [hE.out] at hF
      have HNT := Lib.hid (names_take hxk)
      have hc0 := gro_keeps hx0 os d
      have hc1 := gro_keeps hx1 os d
      have hc2 := gro_keeps hx2 os d
      have z0 := gro_keeps y0 os d
      have z1 := gro_keeps y1 os d
      have hji : (j : Int) < (syms.length : Int) := by omega
      clear hE
      obtain ⟨nm, st, sz⟩ := x
      simp only at hF hx0 hx1 hx2 bx0 bx1 bx2 hc0 hc1 hc2 HNT
      by_cases q1 : st = (a : Int)
      case neg =>
        have HF := Lib.hid (show imgF code syms [] 0 = false from by rw [hF]; simp [q1])
        have p1 : (st != (a : Int)) = true := by simp [q1]
        clear hF
        go_wp2_with (fail)
        go_ret
        exact ⟨ret_bool (by rw [HQ.out, HF.out]), hG0.trans (by (repeat (first | with_reducible exact Gro.refl _ | with_reducible exact Gro.refl_drew _ _ _ | with_reducible exact Gro.refl_drewN _ _ _ _ | assumption | with_reducible apply Gro.more | with_reducible apply Gro.alloc | with_reducible apply Gro.drew | with_reducible apply Gro.drewN)); done)⟩
      subst q1
      have p1 : (((a : Nat) : Int) != (a : Int)) = false := by simp
      by_cases q2 : 1 ≤ sz
      case neg =>
        have HF := Lib.hid (show imgF code syms [] 0 = false from by rw [hF]; simp [q2])
        have p2 : decide (sz < 1) = true := decide_eq_true (by omega)
        clear hF
        go_wp2_with (fail)
        go_ret
        exact ⟨ret_bool (by rw [HQ.out, HF.out]), hG0.trans (by (repeat (first | with_reducible exact Gro.refl _ | with_reducible exact Gro.refl_drew _ _ _ | with_reducible exact Gro.refl_drewN _ _ _ _ | assumption | with_reducible apply Gro.more | with_reducible apply Gro.alloc | with_reducible apply Gro.drew | with_reducible apply Gro.drewN)); done)⟩
      have p2 : decide (sz < 1) = false := decide_eq_false (by omega)
      by_cases q3 : sz ≤ (code.size : Int) - a
      case neg =>
        have HF := Lib.hid (show imgF code syms [] 0 = false from by rw [hF]; simp [q3])
        have p3 : decide ((code.size : Int) - a < sz) = true := decide_eq_true (by omega)
        clear hF
        go_wp2_with (fail)
        go_ret
        exact ⟨ret_bool (by rw [HQ.out, HF.out]), hG0.trans (by (repeat (first | with_reducible exact Gro.refl _ | with_reducible exact Gro.refl_drew _ _ _ | with_reducible exact Gro.refl_drewN _ _ _ _ | assumption | with_reducible apply Gro.more | with_reducible apply Gro.alloc | with_reducible apply Gro.drew | with_reducible apply Gro.drewN)); done)⟩
      have p3 : decide ((code.size : Int) - a < sz) = false := decide_eq_false (by omega)
      obtain ⟨z, rfl⟩ := Int.eq_ofNat_of_zero_le (show 0 ≤ sz by omega)
      cases q4 : nameOk nm
      case false =>
        have HF := Lib.hid (show imgF code syms [] 0 = false from by rw [hF]; simp [q4])
        have HN := Lib.hid q4
        clear hF q4
        go_wp2_with (go_at_call 112; (with_reducible refine (nameOk_i nm _ bx0).mono ?_); rw [HN.out]; rintro e w1 ⟨rfl, rfl⟩)
        go_ret
        exact ⟨ret_bool (by rw [HQ.out, HF.out]), hG0.trans (by (repeat (first | with_reducible exact Gro.refl _ | with_reducible exact Gro.refl_drew _ _ _ | with_reducible exact Gro.refl_drewN _ _ _ _ | assumption | with_reducible apply Gro.more | with_reducible apply Gro.alloc | with_reducible apply Gro.drew | with_reducible apply Gro.drewN)); done)⟩
      have HN := Lib.hid q4
      have hF2 : imgF code syms [] 0 = (!((syms.take j).map DSymbol.Name).any (fun y => decide (y = nm)) && disOk (code.extract a (a + z)) 0 && imgF code (syms.drop (j + 1)) ((syms.take (j + 1)).map DSymbol.Name) (a + z)) := by
        rw [hF, HNT.out, q4]
        simp [q2, q3]
      have HF2 := Lib.hid hF2
      clear hF hF2 q4 HNT
      go_wp2_with (go_at_call 112; (with_reducible refine (nameOk_i nm _ bx0).mono ?_); rw [HN.out]; rintro e w1 ⟨rfl, rfl⟩)
      have hGV : Gro Y ((gro Y os d).alloc (.cells #[.string nm, .int .i64 (a : Int), .int .i64 (z : Int)] 118)) := (by repeat (first | with_reducible exact Gro.refl _ | with_reducible exact Gro.refl_drew _ _ _ | with_reducible exact Gro.refl_drewN _ _ _ _ | assumption | with_reducible apply Gro.more | with_reducible apply Gro.alloc | with_reducible apply Gro.drew | with_reducible apply Gro.drewN))
      have es := heap_alloc_new (gro Y os d) (.cells #[.string nm, .int .i64 (a : Int), .int .i64 (z : Int)] 118)
      obtain ⟨gs, hgs⟩ : ∃ gs, (gro Y os d).heap.size = gs := ⟨_, rfl⟩
      rw [hgs] at es
      rw [gro_size] at hgs
      rw [hgs]
      generalize (gro Y os d).alloc (.cells #[.string nm, .int .i64 (a : Int), .int .i64 (z : Int)] 118) = V at hGV es ⊢
      have hc := fun k => cell_of_row V gs k _ _ (0, 0) es
      have v0 : V.cell? ⟨gs, 0, none⟩ = some (.string nm) := hc 0
      have v1 : V.cell? ⟨gs, 1, none⟩ = some (.int .i64 (a : Int)) := hc 1
      have v2 : V.cell? ⟨gs, 2, none⟩ = some (.int .i64 (z : Int)) := hc 2
      have u0 := cell_up hGV y0
      have u1 := cell_up hGV y1
      have h3 := Ty.up _ h2 hGV
      have vl : gs < V.heap.size := (Array.getElem?_eq_some_iff.1 es).1
      have ul : g0 < V.heap.size := Nat.lt_of_lt_of_le yl hGV.size
      clear hc es hc0 hc1 hc2 z0 z1 hx0 hx1 hx2 p1 p2 p3 hgs
      have hjn : (j : Int) ≤ (syms.length : Int) := by omega
      have hjc : (j : Int) ≤ (c : Int) := by omega
      go_loopw [52] (fun y we => ∃ m : Nat, y = .int .i64 m ∧ m ≤ j ∧ Hid (∀ (i : Nat) (y : DSymbol), i < m → syms[i]? = some y → y.Name ≠ nm) ∧ Hid (Gro V we)) (fun y _ => j - (intOf y).toNat)
      case atStart => exact ⟨0, rfl, Nat.zero_le _, Lib.hid (fun i y h => absurd h (Nat.not_lt_zero _)), Lib.hid (Gro.refl _)⟩
      case round =>
        obtain ⟨m, rfl, hm, hne, hG⟩ := hrel
        obtain ⟨os2, d2, rfl⟩ := hG.out
        clear hG
        by_cases hml : m < j
        · obtain ⟨g2, off2, y, hAe, hgb2, hyk, hy0, hy1, hy2, by0, by1, by2⟩ := atSymbol h3 (k := m) (by omega)
          injection hAe with hAe
          injection hAe with e1 e2
          subst e1 e2
          have hmi : (m : Int) < (j : Int) := by omega
          have k0 := gro_keeps hy0 os2 d2
          have k1 := gro_keeps hy1 os2 d2
          have k2 := gro_keeps hy2 os2 d2
          have r0 := gro_keeps v0 os2 d2
          obtain ⟨yn, ys, yz⟩ := y
          simp only at k0 k1 k2 hyk
          by_cases he : yn = nm
          · subst he
            have HF := Lib.hid (show imgF code syms [] 0 = false from by
              rw [HF2.out]
              have : yn ∈ (syms.take j).map DSymbol.Name := List.mem_map.2 ⟨_, List.mem_of_getElem? (i := m) (by rw [List.getElem?_take, if_pos hml]; exact hyk), rfl⟩
              have hct : ((syms.take j).map DSymbol.Name).any (fun y => decide (y = yn)) = true := List.any_eq_true.2 ⟨yn, this, by simp⟩
              rw [hct]
              rfl)
            clear hyk
            go_wp2_with (fail)
            go_ret
            exact ⟨ret_bool (by rw [HQ.out, HF.out]), (hG0.trans hGV).trans (by (repeat (first | with_reducible exact Gro.refl _ | with_reducible exact Gro.refl_drew _ _ _ | with_reducible exact Gro.refl_drewN _ _ _ _ | assumption | with_reducible apply Gro.more | with_reducible apply Gro.alloc | with_reducible apply Gro.drew | with_reducible apply Gro.drewN)); done)⟩
          · have hnb : (yn.toList == nm.toList) = false := by rw [str_eqb, decide_eq_false he]
            have HE := Lib.hid he
            have HYK := Lib.hid hyk
            clear he hyk
            go_wp2_with (fail)
            go_roundw
            case measure => (simp [intOf]; try omega)
            case rel => exact ⟨m + 1, by go_num, by omega, Lib.hid (fun i y hi hy => by
              by_cases him : i = m
              · subst him
                rw [HYK.out] at hy
                cases hy
                exact HE.out
              · exact hne.out i y (by omega) hy), Lib.hid (by repeat (first | with_reducible exact Gro.refl _ | with_reducible exact Gro.refl_drew _ _ _ | with_reducible exact Gro.refl_drewN _ _ _ _ | assumption | with_reducible apply Gro.more | with_reducible apply Gro.alloc | with_reducible apply Gro.drew | with_reducible apply Gro.drewN))⟩
        · obtain rfl : m = j := by omega
          have u0' := gro_keeps u0 os2 d2
          have u1' := gro_keeps u1 os2 d2
          have v1' := gro_keeps v1 os2 d2
          have v2' := gro_keeps v2 os2 d2
          have hnc : ((syms.take m).map DSymbol.Name).any (fun y => decide (y = nm)) = false := by
            cases hcc : ((syms.take m).map DSymbol.Name).any (fun y => decide (y = nm))
            · rfl
            · obtain ⟨yn, hyn, hye2⟩ := List.any_eq_true.1 hcc
              obtain ⟨y, hy, hye⟩ := List.mem_map.1 hyn
              have hye : y.Name = nm := hye.trans (by simpa using hye2)
              obtain ⟨i, hi⟩ := List.mem_iff_getElem?.1 hy
              have him : i < m := by
                have := (List.getElem?_eq_some_iff.1 hi).1
                rw [List.length_take] at this
                omega
              rw [List.getElem?_take, if_pos him] at hi
              exact absurd hye (hne.out i y him hi)
          have hF3 := HF2.out
          rw [hnc] at hF3
          simp only [Bool.not_false, Bool.true_and] at hF3
          clear hne HF2
          have hsub : (code.extract a (a + z)).size ≤ 1099511627776 := by rw [ByteArray.size_extract]; omega
          obtain ⟨b, hb⟩ : ∃ b, disOk (code.extract a (a + z)) 0 = b := ⟨_, rfl⟩
          rw [hb] at hF3
          have HB := Lib.hid hb
          have w1 : IntKind.i64.wrap ((a : Int) + (z : Int)) = (a : Int) + (z : Int) := IntWalk.i64_in _ (by omega)
          have w2 : (a : Int) + (z : Int) ≤ (code.size : Int) := by omega
          have w3 : (a : Int) ≤ (a : Int) + (z : Int) := by omega
          have w4 : (0 : Int) ≤ (a : Int) + (z : Int) := by omega
          clear hb
          cases b with
          | false =>
            have HF := Lib.hid (show imgF code syms [] 0 = false from by rw [hF3]; rfl)
            clear hF3
            go_wp2_with (go_at_call 113; (with_reducible refine (dis_i (code.extract a (a + z)) _ hsub).mono ?_); rw [HB.out]; rintro e w4 ⟨A4, n4, c4, rfl, os4, d4, rfl⟩)
            go_ret
            exact ⟨ret_bool (by rw [HQ.out, HF.out]), (hG0.trans hGV).trans (by (repeat (first | with_reducible exact Gro.refl _ | with_reducible exact Gro.refl_drew _ _ _ | with_reducible exact Gro.refl_drewN _ _ _ _ | assumption | with_reducible apply Gro.more | with_reducible apply Gro.alloc | with_reducible apply Gro.drew | with_reducible apply Gro.drewN)); done)⟩
          | true =>
            have HF := Lib.hid (show imgF code (syms.drop (m + 1)) ((syms.take (m + 1)).map DSymbol.Name) (a + z) = imgF code syms [] 0 from by rw [hF3]; simp)
            clear hF3
            go_wp2_with (go_at_call 113; (with_reducible refine (dis_i (code.extract a (a + z)) _ hsub).mono ?_); rw [HB.out]; rintro e w4 ⟨A4, n4, c4, rfl, os4, d4, rfl⟩)
            go_roundw
            case measure => (simp [intOf]; try omega)
            case rel => exact ⟨m + 1, a + z, by go_num, by go_num, by omega, by omega, HF, Lib.hid (hGV.trans (by (repeat (first | with_reducible exact Gro.refl _ | with_reducible exact Gro.refl_drew _ _ _ | with_reducible exact Gro.refl_drewN _ _ _ _ | assumption | with_reducible apply Gro.more | with_reducible apply Gro.alloc | with_reducible apply Gro.drew | with_reducible apply Gro.drewN)); done))⟩
    · obtain rfl : j = syms.length := by omega
      have hEE := hE.out
      rw [List.drop_length] at hEE
      have HF := Lib.hid (show ((a : Int) == (code.size : Int)) = imgF code syms [] 0 from by
        rw [← hEE]
        simp only [imgF]
        by_cases h : a = code.size
        · simp [h]
        · simp [h]; omega)
      have z0 := gro_keeps y0 os d
      clear hE hEE
      go_wp2_with (fail)
      go_ret
      exact ⟨ret_bool (by rw [HQ.out, ← HF.out]), hG0.trans (by (repeat (first | with_reducible exact Gro.refl _ | with_reducible exact Gro.refl_drew _ _ _ | with_reducible exact Gro.refl_drewN _ _ _ _ | assumption | with_reducible apply Gro.more | with_reducible apply Gro.alloc | with_reducible apply Gro.drew | with_reducible apply Gro.drewN)); done)⟩
end Go.Proofs.Ytbhobjepjaeffaa
