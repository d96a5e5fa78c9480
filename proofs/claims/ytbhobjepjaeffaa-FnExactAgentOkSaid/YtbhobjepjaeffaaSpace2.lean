/-
  SPACE, PART 2: SymbolAt and SpaceOk of the reference.
-/
import Derived.Test.YtbhobjepjaeffaaLocate
set_option linter.unusedVariables false
set_option linter.unusedSimpArgs false
namespace Go.Proofs.Ytbhobjepjaeffaa
open Go.RowKit
theorem symGo_at {syms : List DSymbol} {k : Nat} {x : DSymbol} (hx : syms[k]? = some x) (off : Int) : symGo (syms.drop k) off k = if symHit x off = true then (k : Int) else symGo (syms.drop (k + 1)) off (k + 1) := by
  obtain ⟨h1, rfl⟩ := List.getElem?_eq_some_iff.1 hx
  rw [List.drop_eq_getElem_cons h1]
  rfl
set_option maxRecDepth 100000 in
set_option maxHeartbeats 4000000 in
theorem symAt_s {i : DImage} {off : Int} {w : World} {A : Option Addr} {c : Nat} (h1 : (tSymbol.sl 118).R w w.heap.size [.slice A i.Symbols.length c] i.Symbols) (ho : I64 off) :
    Calls Try.prog 83 #[.agg #[.string i.Code, .slice A i.Symbols.length c], .int .i64 off] w fun r w' => r = .returned (.int .i64 (symGo i.Symbols off 0)) ∧ Gro w w' := by
  obtain ⟨_, _, hx', hxl, hcm⟩ := sl_at h1
  injection hx' with e1 e2 e3
  subst e1 e3
  clear e2
  obtain ⟨code, syms⟩ := i
  simp only at h1 hxl hcm ⊢
  obtain ⟨ho1, ho2⟩ := ho
  go_enter Try.func83, Try.ntmps83
  go_wp2_with (fail)
  have hG0 : Gro w (w.alloc (.cells #[.string code, .slice A syms.length c] 96)) := (by repeat (first | with_reducible exact Gro.refl _ | with_reducible exact Gro.refl_drew _ _ _ | with_reducible exact Gro.refl_drewN _ _ _ _ | assumption | with_reducible apply Gro.more | with_reducible apply Gro.alloc | with_reducible apply Gro.drew | with_reducible apply Gro.drewN))
  have eb := heap_alloc_new w (.cells #[.string code, .slice A syms.length c] 96)
  have h2 := Ty.up _ h1 hG0
  obtain ⟨g0, hg0⟩ : ∃ g0, w.heap.size = g0 := ⟨_, rfl⟩
  rw [hg0] at eb ⊢
  generalize w.alloc (.cells #[.string code, .slice A syms.length c] 96) = Y at hG0 eb h2 ⊢
  clear h1 hg0
  obtain ⟨y0, y1, _, _, yl⟩ := box2 eb
  go_loopw [5] (fun x wr => ∃ (j : Nat), x = .int .i64 j ∧ j ≤ syms.length ∧ Hid (symGo (syms.drop j) off j = symGo syms off 0) ∧ Hid (Gro Y wr)) (fun y _ => syms.length - (intOf y).toNat)
  case atStart => exact ⟨0, rfl, Nat.zero_le _, Lib.hid rfl, Lib.hid (Gro.refl _)⟩
  case round =>
    obtain ⟨j, rfl, hj, hE, hG⟩ := hrel
    obtain ⟨os, d, rfl⟩ := hG.out
    clear hG
    by_cases hlt : j < syms.length
    · obtain ⟨g, offs, x, rfl, hgb, hxk, hx0, hx1, hx2, bx0, bx1, bx2⟩ := atSymbol h2 hlt
      have hF := symGo_at hxk off
      rw [hE.out] at hF
      have hc0 := gro_keeps hx0 os d
      have hc1 := gro_keeps hx1 os d
      have hc2 := gro_keeps hx2 os d
      have z0 := gro_keeps y0 os d
      have z1 := gro_keeps y1 os d
      have hji : (j : Int) < (syms.length : Int) := by omega
      clear hE hxk
      obtain ⟨nm, st, sz⟩ := x
      simp only at hF hc0 hc1 hc2
      have hno : symHit ⟨nm, st, sz⟩ off = false → symGo (syms.drop (j + 1)) off (j + 1) = symGo syms off 0 := fun h => by rw [hF, h]; rfl
      have hyes : symHit ⟨nm, st, sz⟩ off = true → symGo syms off 0 = (j : Int) := fun h => by rw [hF, h]; rfl
      clear hF
      obtain ⟨b0, hb0⟩ : ∃ b, btw st 0 1000000 = b := ⟨_, rfl⟩
      obtain ⟨b1, hb1⟩ : ∃ b, btw sz 0 1000000 = b := ⟨_, rfl⟩
      have HB0 := Lib.hid hb0
      have HB1 := Lib.hid hb1
      cases b0 with
      | false =>
        have HE := Lib.hid (hno (by simp [symHit, hb0]))
        clear hno hyes hb0 hb1
        go_wp2_with (go_at_call 44; (with_reducible refine (in_s _ _ _ _).mono ?_); rw [HB0.out]; rintro e w1 ⟨rfl, rfl⟩)
        go_roundw
        case measure => (simp [intOf]; try omega)
        case rel => exact ⟨j + 1, by go_num, by omega, HE, Lib.hid (by repeat (first | with_reducible exact Gro.refl _ | with_reducible exact Gro.refl_drew _ _ _ | with_reducible exact Gro.refl_drewN _ _ _ _ | assumption | with_reducible apply Gro.more | with_reducible apply Gro.alloc | with_reducible apply Gro.drew | with_reducible apply Gro.drewN))⟩
      | true =>
        cases b1 with
        | false =>
          have HE := Lib.hid (hno (by simp [symHit, hb1]))
          clear hno hyes hb0 hb1
          go_wp2_with (go_at_call 44; (with_reducible refine (in_s _ _ _ _).mono ?_); first | (rw [HB0.out]; rintro e w1 ⟨rfl, rfl⟩) | (rw [HB1.out]; rintro e w1 ⟨rfl, rfl⟩))
          go_roundw
          case measure => (simp [intOf]; try omega)
          case rel => exact ⟨j + 1, by go_num, by omega, HE, Lib.hid (by repeat (first | with_reducible exact Gro.refl _ | with_reducible exact Gro.refl_drew _ _ _ | with_reducible exact Gro.refl_drewN _ _ _ _ | assumption | with_reducible apply Gro.more | with_reducible apply Gro.alloc | with_reducible apply Gro.drew | with_reducible apply Gro.drewN))⟩
        | true =>
          have r0 := btw_iff.1 hb0
          have r1 := btw_iff.1 hb1
          have w1 : IntKind.i64.wrap (st + sz) = st + sz := IntWalk.i64_in _ ⟨by omega, by omega⟩
          by_cases q2 : st ≤ off
          case neg =>
            have s2 : decide (st ≤ off) = false := decide_eq_false q2
            have HE := Lib.hid (hno (by simp [symHit, q2]))
            clear hno hyes hb0 hb1
            go_wp2_with (go_at_call 44; (with_reducible refine (in_s _ _ _ _).mono ?_); first | (rw [HB0.out]; rintro e w1 ⟨rfl, rfl⟩) | (rw [HB1.out]; rintro e w1 ⟨rfl, rfl⟩))
            go_roundw
            case measure => (simp [intOf]; try omega)
            case rel => exact ⟨j + 1, by go_num, by omega, HE, Lib.hid (by repeat (first | with_reducible exact Gro.refl _ | with_reducible exact Gro.refl_drew _ _ _ | with_reducible exact Gro.refl_drewN _ _ _ _ | assumption | with_reducible apply Gro.more | with_reducible apply Gro.alloc | with_reducible apply Gro.drew | with_reducible apply Gro.drewN))⟩
          have s2 : decide (st ≤ off) = true := decide_eq_true q2
          by_cases q3 : off < st + sz
          case neg =>
            have s3 : decide (off < st + sz) = false := decide_eq_false q3
            have HE := Lib.hid (hno (by simp [symHit, q3]))
            clear hno hyes hb0 hb1
            go_wp2_with (go_at_call 44; (with_reducible refine (in_s _ _ _ _).mono ?_); first | (rw [HB0.out]; rintro e w1 ⟨rfl, rfl⟩) | (rw [HB1.out]; rintro e w1 ⟨rfl, rfl⟩))
            go_roundw
            case measure => (simp [intOf]; try omega)
            case rel => exact ⟨j + 1, by go_num, by omega, HE, Lib.hid (by repeat (first | with_reducible exact Gro.refl _ | with_reducible exact Gro.refl_drew _ _ _ | with_reducible exact Gro.refl_drewN _ _ _ _ | assumption | with_reducible apply Gro.more | with_reducible apply Gro.alloc | with_reducible apply Gro.drew | with_reducible apply Gro.drewN))⟩
          have s3 : decide (off < st + sz) = true := decide_eq_true q3
          have HE := Lib.hid (hyes (by simp [symHit, q2, q3, hb0, hb1]))
          clear hno hyes hb0 hb1
          go_wp2_with (go_at_call 44; (with_reducible refine (in_s _ _ _ _).mono ?_); first | (rw [HB0.out]; rintro e w1 ⟨rfl, rfl⟩) | (rw [HB1.out]; rintro e w1 ⟨rfl, rfl⟩))
          go_ret
          exact ⟨ret_int HE.out.symm, hG0.trans (by (repeat (first | with_reducible exact Gro.refl _ | with_reducible exact Gro.refl_drew _ _ _ | with_reducible exact Gro.refl_drewN _ _ _ _ | assumption | with_reducible apply Gro.more | with_reducible apply Gro.alloc | with_reducible apply Gro.drew | with_reducible apply Gro.drewN)); done)⟩
    · obtain rfl : j = syms.length := by omega
      have HQ := Lib.hid (show symGo syms off 0 = -1 from by rw [← hE.out, List.drop_length]; rfl)
      have z0 := gro_keeps y0 os d
      have z1 := gro_keeps y1 os d
      clear hE
      go_wp2_with (fail)
      go_ret
      exact ⟨ret_int HQ.out.symm, hG0.trans (by (repeat (first | with_reducible exact Gro.refl _ | with_reducible exact Gro.refl_drew _ _ _ | with_reducible exact Gro.refl_drewN _ _ _ _ | assumption | with_reducible apply Gro.more | with_reducible apply Gro.alloc | with_reducible apply Gro.drew | with_reducible apply Gro.drewN)); done)⟩
theorem locate2_s {i j : DImage} {a b : Int} {es : List Int} {e : Int} {w : World} {A0 A1 A2 : Option Addr} {c0 c1 c2 : Nat} (h0 : (tImage.sl 96).R w w.heap.size [.slice A0 2 c0] [i, j]) (h1 : (intT.sl 3).R w w.heap.size [.slice A1 2 c1] [a, b])
    (hi : i.Code.size ≤ 1099511627776) (hj : j.Code.size ≤ 1099511627776) (ha : btw a 1 1000000 = true) (hb : btw b 1 1000000 = true) (he : I64 e) :
    Calls Try.prog 82 #[.agg #[.slice A0 2 c0, .slice A1 2 c1, .slice A2 es.length c2], .int .i64 e] w (RetTwo (locGo [i, j] [a, b] e 0) w) :=
  locate_s (imgs := [i, j]) (bases := [a, b]) h0 h1 rfl (fun x hx => by
    simp only [List.mem_cons, List.not_mem_nil, or_false] at hx
    rcases hx with rfl | rfl
    · exact hi
    · exact hj) (fun x hx => by
    simp only [List.mem_cons, List.not_mem_nil, or_false] at hx
    rcases hx with rfl | rfl
    · exact ha
    · exact hb) he
set_option maxRecDepth 100000 in
set_option maxHeartbeats 8000000 in
theorem spaceOk_s {s : DSpace} {w : World} {A0 A1 A2 : Option Addr} {c0 c1 c2 : Nat} (h0 : (tImage.sl 96).R w w.heap.size [.slice A0 s.Images.length c0] s.Images) (h1 : (intT.sl 3).R w w.heap.size [.slice A1 s.Bases.length c1] s.Bases)
    (h2 : (intT.sl 3).R w w.heap.size [.slice A2 s.Entries.length c2] s.Entries) (hs : szSpace s ≤ 1099511627776) :
    Calls Try.prog 43 #[.agg #[.slice A0 s.Images.length c0, .slice A1 s.Bases.length c1, .slice A2 s.Entries.length c2]] w fun r w' => r = .returned (.bool (spaceOk s)) ∧ Gro w w' := by
  by_cases hi : s.Images.length = 2
  case neg =>
    have HQ := Lib.hid (space_img hi)
    have p1 : ((s.Images.length : Int) != 2) = true := by simp; omega
    clear hi
    go_enter Try.func43, Try.ntmps43
    go_wp2_with (fail)
    go_ret
    exact ⟨ret_bool HQ.out.symm, (by repeat (first | with_reducible exact Gro.refl _ | with_reducible exact Gro.refl_drew _ _ _ | with_reducible exact Gro.refl_drewN _ _ _ _ | assumption | with_reducible apply Gro.more | with_reducible apply Gro.alloc | with_reducible apply Gro.drew | with_reducible apply Gro.drewN))⟩
  by_cases hj : s.Bases.length = 2
  case neg =>
    have HQ := Lib.hid (space_bas hj)
    have p1 : ((s.Images.length : Int) != 2) = false := by simp; omega
    have p2 : ((s.Bases.length : Int) != 2) = true := by simp; omega
    clear hi hj
    go_enter Try.func43, Try.ntmps43
    go_wp2_with (fail)
    go_ret
    exact ⟨ret_bool HQ.out.symm, (by repeat (first | with_reducible exact Gro.refl _ | with_reducible exact Gro.refl_drew _ _ _ | with_reducible exact Gro.refl_drewN _ _ _ _ | assumption | with_reducible apply Gro.more | with_reducible apply Gro.alloc | with_reducible apply Gro.drew | with_reducible apply Gro.drewN))⟩
  cases he : btw s.Entries.length 1 6 with
  | false =>
    have HQ := Lib.hid (space_ent he)
    have HE := Lib.hid he
    have p1 : ((s.Images.length : Int) != 2) = false := by simp; omega
    have p2 : ((s.Bases.length : Int) != 2) = false := by simp; omega
    clear hi hj he
    go_enter Try.func43, Try.ntmps43
    go_wp2_with (go_at_call 44; (with_reducible refine (in_s _ _ _ _).mono ?_); rw [HE.out]; rintro e w1 ⟨rfl, rfl⟩)
    go_ret
    exact ⟨ret_bool HQ.out.symm, (by repeat (first | with_reducible exact Gro.refl _ | with_reducible exact Gro.refl_drew _ _ _ | with_reducible exact Gro.refl_drewN _ _ _ _ | assumption | with_reducible apply Gro.more | with_reducible apply Gro.alloc | with_reducible apply Gro.drew | with_reducible apply Gro.drewN))⟩
  | true =>
  obtain ⟨imgs, bases, es⟩ := s
  simp only at h0 h1 h2 hi hj he hs ⊢
  have HE := Lib.hid he
  have hel := btw_iff.1 he
  obtain ⟨i, j, rfl⟩ := len_two hi
  obtain ⟨a, b, rfl⟩ := len_two hj
  have HS := Lib.hid (@space_two i j a b es)
  rw [he] at HS
  clear hi hj he
  obtain ⟨_, _, hx', hzl, hzm⟩ := sl_at h2
  injection hx' with e1 e2 e3
  subst e1 e3
  clear e2
  have hsz : szImage i + szImage j + 2 + 2 + es.length ≤ 1099511627776 := by simp [szSpace, szL] at hs; omega
  have hci : i.Code.size ≤ 1099511627776 := by unfold szImage at hsz; omega
  have hcj : j.Code.size ≤ 1099511627776 := by unfold szImage at hsz; omega
  have hsi : i.Symbols.length ≤ 1099511627776 := by unfold szImage at hsz; have := szL_len szSymbol i.Symbols; omega
  have hsj : j.Symbols.length ≤ 1099511627776 := by unfold szImage at hsz; have := szL_len szSymbol j.Symbols; omega
  clear hsz hs
  simp only [List.length_cons, List.length_nil] at h0 h1 ⊢
  go_enter Try.func43, Try.ntmps43
  go_wp2_with (go_at_call 44; (with_reducible refine (in_s _ _ _ _).mono ?_); rw [HE.out]; rintro e w1 ⟨rfl, rfl⟩)
  have hG0 : Gro w (w.alloc (.cells #[.slice A0 2 c0, .slice A1 2 c1, .slice A2 es.length c2] 33)) := (by repeat (first | with_reducible exact Gro.refl _ | with_reducible exact Gro.refl_drew _ _ _ | with_reducible exact Gro.refl_drewN _ _ _ _ | assumption | with_reducible apply Gro.more | with_reducible apply Gro.alloc | with_reducible apply Gro.drew | with_reducible apply Gro.drewN))
  have eb := heap_alloc_new w (.cells #[.slice A0 2 c0, .slice A1 2 c1, .slice A2 es.length c2] 33)
  have k0 := Ty.up _ h0 hG0
  have k1 := Ty.up _ h1 hG0
  have k2 := Ty.up _ h2 hG0
  obtain ⟨g0, hg0⟩ : ∃ g0, w.heap.size = g0 := ⟨_, rfl⟩
  rw [hg0] at eb ⊢
  generalize w.alloc (.cells #[.slice A0 2 c0, .slice A1 2 c1, .slice A2 es.length c2] 33) = Y at hG0 eb k0 k1 k2 ⊢
  clear h0 h1 h2 hg0
  obtain ⟨y0, y1, y2, _, yl⟩ := box3 eb
  obtain ⟨gi, oi, Ai, ci, Aj, cj, rfl, hgi, i0, i1, j0, j1, bi0, bj0, bi1, bj1⟩ := image_two k0
  obtain ⟨gb, ob, rfl, b0, b1, ⟨ba1, ba2⟩, ⟨bb1, bb2⟩⟩ := ints_two k1
  have hgb := World.block_lt_of_cell? _ _ b0
  simp only at hgb
  go_loopw [3] (fun x wr => ((x = .int .i64 0) ∨ (x = .int .i64 1 ∧ imageOk i = true ∧ btw a 1 1000000 = true) ∨ (x = .int .i64 2 ∧ imageOk i = true ∧ btw a 1 1000000 = true ∧ imageOk j = true ∧ btw b 1 1000000 = true)) ∧ Hid (Gro Y wr)) (fun x _ => 2 - (intOf x).toNat)
  case atStart => exact ⟨.inl rfl, Lib.hid (Gro.refl _)⟩
  case round =>
    obtain ⟨hcase, hG⟩ := hrel
    obtain ⟨os, d, rfl⟩ := hG.out
    clear hG
    rcases hcase with rfl | ⟨rfl, hq1, hq2⟩ | ⟨rfl, hq1, hq2, hq3, hq4⟩
    · have d0 := gro_keeps i0 os d
      have d1 := gro_keeps i1 os d
      have d2 := gro_keeps b0 os d
      have z0 := gro_keeps y0 os d
      have z1 := gro_keeps y1 os d
      obtain ⟨ik, hk⟩ : ∃ ik, imageOk i = ik := ⟨_, rfl⟩
      cases ik with
      | false =>
        have HK := Lib.hid hk
        have HQ := Lib.hid (show spaceOk ⟨[i, j], [a, b], es⟩ = false from by rw [HS.out, hk]; simp)
        clear hk
        go_wp2_with (go_at_call 81; (with_reducible refine (imageOk_s (i := i) (Ty.up _ bi1 (by repeat (first | with_reducible exact Gro.refl _ | with_reducible exact Gro.refl_drew _ _ _ | with_reducible exact Gro.refl_drewN _ _ _ _ | assumption | with_reducible apply Gro.more | with_reducible apply Gro.alloc | with_reducible apply Gro.drew | with_reducible apply Gro.drewN))) hci hsi).mono ?_); rw [HK.out]; rintro e w1 ⟨rfl, os1, d1, rfl⟩)
        go_ret
        exact ⟨ret_bool HQ.out.symm, hG0.trans (by (repeat (first | with_reducible exact Gro.refl _ | with_reducible exact Gro.refl_drew _ _ _ | with_reducible exact Gro.refl_drewN _ _ _ _ | assumption | with_reducible apply Gro.more | with_reducible apply Gro.alloc | with_reducible apply Gro.drew | with_reducible apply Gro.drewN)); done)⟩
      | true =>
        obtain ⟨bk, hb⟩ : ∃ bk, btw a 1 1000000 = bk := ⟨_, rfl⟩
        cases bk with
        | false =>
          have HK := Lib.hid hk
          have HB := Lib.hid hb
          have HQ := Lib.hid (show spaceOk ⟨[i, j], [a, b], es⟩ = false from by rw [HS.out, hb]; simp)
          clear hk hb
          go_wp2_with (first
            | (go_at_call 81; (with_reducible refine (imageOk_s (i := i) (Ty.up _ bi1 (by repeat (first | with_reducible exact Gro.refl _ | with_reducible exact Gro.refl_drew _ _ _ | with_reducible exact Gro.refl_drewN _ _ _ _ | assumption | with_reducible apply Gro.more | with_reducible apply Gro.alloc | with_reducible apply Gro.drew | with_reducible apply Gro.drewN))) hci hsi).mono ?_); rw [HK.out]; rintro e w1 ⟨rfl, os1, d1, rfl⟩)
            | (go_at_call 44; (with_reducible refine (in_s _ _ _ _).mono ?_); rw [HB.out]; rintro e w1 ⟨rfl, rfl⟩))
          go_ret
          exact ⟨ret_bool HQ.out.symm, hG0.trans (by (repeat (first | with_reducible exact Gro.refl _ | with_reducible exact Gro.refl_drew _ _ _ | with_reducible exact Gro.refl_drewN _ _ _ _ | assumption | with_reducible apply Gro.more | with_reducible apply Gro.alloc | with_reducible apply Gro.drew | with_reducible apply Gro.drewN)); done)⟩
        | true =>
          have HK := Lib.hid hk
          have HB := Lib.hid hb
          clear hk hb
          go_wp2_with (first
            | (go_at_call 81; (with_reducible refine (imageOk_s (i := i) (Ty.up _ bi1 (by repeat (first | with_reducible exact Gro.refl _ | with_reducible exact Gro.refl_drew _ _ _ | with_reducible exact Gro.refl_drewN _ _ _ _ | assumption | with_reducible apply Gro.more | with_reducible apply Gro.alloc | with_reducible apply Gro.drew | with_reducible apply Gro.drewN))) hci hsi).mono ?_); rw [HK.out]; rintro e w1 ⟨rfl, os1, d1, rfl⟩)
            | (go_at_call 44; (with_reducible refine (in_s _ _ _ _).mono ?_); rw [HB.out]; rintro e w1 ⟨rfl, rfl⟩))
          go_roundw
          case measure => (simp [intOf]; try omega)
          case rel => exact ⟨.inr (.inl ⟨rfl, HK.out, HB.out⟩), Lib.hid (by repeat (first | with_reducible exact Gro.refl _ | with_reducible exact Gro.refl_drew _ _ _ | with_reducible exact Gro.refl_drewN _ _ _ _ | assumption | with_reducible apply Gro.more | with_reducible apply Gro.alloc | with_reducible apply Gro.drew | with_reducible apply Gro.drewN))⟩
    · have d0 := gro_keeps j0 os d
      have d1 := gro_keeps j1 os d
      have d2 := gro_keeps b1 os d
      have z0 := gro_keeps y0 os d
      have z1 := gro_keeps y1 os d
      obtain ⟨ik, hk⟩ : ∃ ik, imageOk j = ik := ⟨_, rfl⟩
      cases ik with
      | false =>
        have HK := Lib.hid hk
        have HQ := Lib.hid (show spaceOk ⟨[i, j], [a, b], es⟩ = false from by rw [HS.out, hk]; simp)
        clear hk
        go_wp2_with (go_at_call 81; (with_reducible refine (imageOk_s (i := j) (Ty.up _ bj1 (by repeat (first | with_reducible exact Gro.refl _ | with_reducible exact Gro.refl_drew _ _ _ | with_reducible exact Gro.refl_drewN _ _ _ _ | assumption | with_reducible apply Gro.more | with_reducible apply Gro.alloc | with_reducible apply Gro.drew | with_reducible apply Gro.drewN))) hcj hsj).mono ?_); rw [HK.out]; rintro e w1 ⟨rfl, os1, d1, rfl⟩)
        go_ret
        exact ⟨ret_bool HQ.out.symm, hG0.trans (by (repeat (first | with_reducible exact Gro.refl _ | with_reducible exact Gro.refl_drew _ _ _ | with_reducible exact Gro.refl_drewN _ _ _ _ | assumption | with_reducible apply Gro.more | with_reducible apply Gro.alloc | with_reducible apply Gro.drew | with_reducible apply Gro.drewN)); done)⟩
      | true =>
        obtain ⟨bk, hb⟩ : ∃ bk, btw b 1 1000000 = bk := ⟨_, rfl⟩
        cases bk with
        | false =>
          have HK := Lib.hid hk
          have HB := Lib.hid hb
          have HQ := Lib.hid (show spaceOk ⟨[i, j], [a, b], es⟩ = false from by rw [HS.out, hb]; simp)
          clear hk hb
          go_wp2_with (first
            | (go_at_call 81; (with_reducible refine (imageOk_s (i := j) (Ty.up _ bj1 (by repeat (first | with_reducible exact Gro.refl _ | with_reducible exact Gro.refl_drew _ _ _ | with_reducible exact Gro.refl_drewN _ _ _ _ | assumption | with_reducible apply Gro.more | with_reducible apply Gro.alloc | with_reducible apply Gro.drew | with_reducible apply Gro.drewN))) hcj hsj).mono ?_); rw [HK.out]; rintro e w1 ⟨rfl, os1, d1, rfl⟩)
            | (go_at_call 44; (with_reducible refine (in_s _ _ _ _).mono ?_); rw [HB.out]; rintro e w1 ⟨rfl, rfl⟩))
          go_ret
          exact ⟨ret_bool HQ.out.symm, hG0.trans (by (repeat (first | with_reducible exact Gro.refl _ | with_reducible exact Gro.refl_drew _ _ _ | with_reducible exact Gro.refl_drewN _ _ _ _ | assumption | with_reducible apply Gro.more | with_reducible apply Gro.alloc | with_reducible apply Gro.drew | with_reducible apply Gro.drewN)); done)⟩
        | true =>
          have HK := Lib.hid hk
          have HB := Lib.hid hb
          clear hk hb
          go_wp2_with (first
            | (go_at_call 81; (with_reducible refine (imageOk_s (i := j) (Ty.up _ bj1 (by repeat (first | with_reducible exact Gro.refl _ | with_reducible exact Gro.refl_drew _ _ _ | with_reducible exact Gro.refl_drewN _ _ _ _ | assumption | with_reducible apply Gro.more | with_reducible apply Gro.alloc | with_reducible apply Gro.drew | with_reducible apply Gro.drewN))) hcj hsj).mono ?_); rw [HK.out]; rintro e w1 ⟨rfl, os1, d1, rfl⟩)
            | (go_at_call 44; (with_reducible refine (in_s _ _ _ _).mono ?_); rw [HB.out]; rintro e w1 ⟨rfl, rfl⟩))
          go_roundw
          case measure => (simp [intOf]; try omega)
          case rel => exact ⟨.inr (.inr ⟨rfl, hq1, hq2, HK.out, HB.out⟩), Lib.hid (by repeat (first | with_reducible exact Gro.refl _ | with_reducible exact Gro.refl_drew _ _ _ | with_reducible exact Gro.refl_drewN _ _ _ _ | assumption | with_reducible apply Gro.more | with_reducible apply Gro.alloc | with_reducible apply Gro.drew | with_reducible apply Gro.drewN))⟩
    · have i0' := gro_keeps i0 os d
      have j0' := gro_keeps j0 os d
      have b0' := gro_keeps b0 os d
      have b1' := gro_keeps b1 os d
      have z0 := gro_keeps y0 os d
      have z1 := gro_keeps y1 os d
      have z2 := gro_keeps y2 os d
      have ra := btw_iff.1 hq2
      have rb := btw_iff.1 hq4
      have HS2 : spaceOk ⟨[i, j], [a, b], es⟩ = (!ovl i j a b && es.all (isEnt ⟨[i, j], [a, b], es⟩)) := by rw [HS.out, hq1, hq2, hq3, hq4]; simp
      have HS3 := Lib.hid HS2
      clear HS2 HS
      have HI := Lib.hid hq1
      have HJ := Lib.hid hq3
      have HA := Lib.hid hq2
      have HB := Lib.hid hq4
      clear hq1 hq2 hq3 hq4
      have hGX : Gro Y (gro Y os d) := (by repeat (first | with_reducible exact Gro.refl _ | with_reducible exact Gro.refl_drew _ _ _ | with_reducible exact Gro.refl_drewN _ _ _ _ | assumption | with_reducible apply Gro.more | with_reducible apply Gro.alloc | with_reducible apply Gro.drew | with_reducible apply Gro.drewN))
      generalize gro Y os d = X at hGX ⊢
      clear i0' j0' b0' b1' z0 z1 z2
      have i0' := cell_up hGX i0
      have j0' := cell_up hGX j0
      have b0' := cell_up hGX b0
      have b1' := cell_up hGX b1
      have z0 := cell_up hGX y0
      have z1 := cell_up hGX y1
      have z2 := cell_up hGX y2
      have w1 : IntKind.i64.wrap (b + (j.Code.size : Int)) = b + (j.Code.size : Int) := IntWalk.i64_in _ ⟨by omega, by omega⟩
      have w2 : IntKind.i64.wrap (a + (i.Code.size : Int)) = a + (i.Code.size : Int) := IntWalk.i64_in _ ⟨by omega, by omega⟩
      go_upto_region 10 with fail
      go_cut [90] from 59 to 90 (fun r wx => r = .bool (ovl i j a b) ∧ Hid (Gro X wx))
      case first =>
        by_cases q0 : (0 : Int) < (i.Code.size : Int)
        · have r0 : decide ((0 : Int) < (i.Code.size : Int)) = true := decide_eq_true q0
          have s0 : 0 < i.Code.size := by omega
          have t0 : decide (0 < i.Code.size) = true := decide_eq_true s0
          by_cases q1 : (0 : Int) < (j.Code.size : Int)
          · have r1 : decide ((0 : Int) < (j.Code.size : Int)) = true := decide_eq_true q1
            have s1 : 0 < j.Code.size := by omega
            have t1 : decide (0 < j.Code.size) = true := decide_eq_true s1
            by_cases q2 : a < b + (j.Code.size : Int)
            · have r2 : decide (a < b + (j.Code.size : Int)) = true := decide_eq_true q2
              by_cases q3 : b < a + (i.Code.size : Int)
              · have r3 : decide (b < a + (i.Code.size : Int)) = true := decide_eq_true q3
                go_quiet (fail)
                go_wp2_with (fail)
                go_meet
                exact ⟨by unfold ovl; rw [t0, t1, r2, r3]; simp, Lib.hid (by repeat (first | with_reducible exact Gro.refl _ | with_reducible exact Gro.refl_drew _ _ _ | with_reducible exact Gro.refl_drewN _ _ _ _ | assumption | with_reducible apply Gro.more | with_reducible apply Gro.alloc | with_reducible apply Gro.drew | with_reducible apply Gro.drewN))⟩
              · have r3 : decide (b < a + (i.Code.size : Int)) = false := decide_eq_false q3
                go_quiet (fail)
                go_wp2_with (fail)
                go_meet
                exact ⟨by unfold ovl; rw [t0, t1, r2, r3]; simp, Lib.hid (by repeat (first | with_reducible exact Gro.refl _ | with_reducible exact Gro.refl_drew _ _ _ | with_reducible exact Gro.refl_drewN _ _ _ _ | assumption | with_reducible apply Gro.more | with_reducible apply Gro.alloc | with_reducible apply Gro.drew | with_reducible apply Gro.drewN))⟩
            · have r2 : decide (a < b + (j.Code.size : Int)) = false := decide_eq_false q2
              go_quiet (fail)
              go_wp2_with (fail)
              go_meet
              exact ⟨by unfold ovl; rw [t0, t1, r2]; simp, Lib.hid (by repeat (first | with_reducible exact Gro.refl _ | with_reducible exact Gro.refl_drew _ _ _ | with_reducible exact Gro.refl_drewN _ _ _ _ | assumption | with_reducible apply Gro.more | with_reducible apply Gro.alloc | with_reducible apply Gro.drew | with_reducible apply Gro.drewN))⟩
          · have r1 : decide ((0 : Int) < (j.Code.size : Int)) = false := decide_eq_false q1
            have s1 : ¬ 0 < j.Code.size := by omega
            have t1 : decide (0 < j.Code.size) = false := decide_eq_false s1
            go_quiet (fail)
            go_wp2_with (fail)
            go_meet
            exact ⟨by unfold ovl; rw [t0, t1]; simp, Lib.hid (by repeat (first | with_reducible exact Gro.refl _ | with_reducible exact Gro.refl_drew _ _ _ | with_reducible exact Gro.refl_drewN _ _ _ _ | assumption | with_reducible apply Gro.more | with_reducible apply Gro.alloc | with_reducible apply Gro.drew | with_reducible apply Gro.drewN))⟩
        · have r0 : decide ((0 : Int) < (i.Code.size : Int)) = false := decide_eq_false q0
          have s0 : ¬ 0 < i.Code.size := by omega
          have t0 : decide (0 < i.Code.size) = false := decide_eq_false s0
          go_quiet (fail)
          go_wp2_with (fail)
          go_meet
          exact ⟨by unfold ovl; rw [t0]; simp, Lib.hid (by repeat (first | with_reducible exact Gro.refl _ | with_reducible exact Gro.refl_drew _ _ _ | with_reducible exact Gro.refl_drewN _ _ _ _ | assumption | with_reducible apply Gro.more | with_reducible apply Gro.alloc | with_reducible apply Gro.drew | with_reducible apply Gro.drewN))⟩
      case rest =>
        obtain ⟨rfl, hGw⟩ := hcut
        have hYw : Gro Y wc := hGX.trans hGw.out
        have hGc : Gro w wc := hG0.trans hYw
        clear i0' j0' b0' b1' z0 z1 z2 hGX hGw
        obtain ⟨vb, hv⟩ : ∃ vb, ovl i j a b = vb := ⟨_, rfl⟩
        rw [hv]
        cases vb with
        | true =>
          have HQ := Lib.hid (show spaceOk ⟨[i, j], [a, b], es⟩ = false from by rw [HS3.out, hv]; rfl)
          clear hv
          go_wp2_with (fail)
          go_ret
          exact ⟨ret_bool HQ.out.symm, hGc⟩
        | false =>
          have HQ := Lib.hid (show spaceOk ⟨[i, j], [a, b], es⟩ = es.all (isEnt ⟨[i, j], [a, b], es⟩) from by rw [HS3.out, hv]; rfl)
          have z0 := cell_up hYw y0
          have z1 := cell_up hYw y1
          have z2 := cell_up hYw y2
          have zl : g0 < wc.heap.size := Nat.lt_of_lt_of_le yl hYw.size
          have m0 := Ty.up _ k0 hYw
          have m1 := Ty.up _ k1 hYw
          have m2 := Ty.up _ k2 hYw
          have HOV := Lib.hid (show ¬ (0 < i.Code.size ∧ 0 < j.Code.size ∧ a < b + j.Code.size ∧ b < a + i.Code.size) from fun h => by
            unfold ovl at hv
            rw [decide_eq_true h.1, decide_eq_true h.2.1, decide_eq_true h.2.2.1, decide_eq_true h.2.2.2] at hv
            cases hv)
          clear hv HS3 w1 w2
          go_wp2_with (fail)
          have HENT := Lib.hid (fun e => ent_eq (es := es) HI.out HJ.out (btw_iff.1 HA.out).1 (btw_iff.1 HB.out).1 (show ¬ (0 < i.Code.size ∧ 0 < j.Code.size ∧ a < b + j.Code.size ∧ b < a + i.Code.size) from HOV.out) e)
          have wi0 := cell_up hYw i0
          have wi1 := cell_up hYw i1
          have wj0 := cell_up hYw j0
          have wj1 := cell_up hYw j1
          have hgiw : gi < wc.heap.size := Nat.lt_of_lt_of_le hgi hYw.size
          go_loopw [6] (fun x wr => ∃ k : Nat, x = .int .i64 k ∧ k ≤ es.length ∧ Hid ((es.drop k).all (isEnt ⟨[i, j], [a, b], es⟩) = es.all (isEnt ⟨[i, j], [a, b], es⟩)) ∧ Hid (Gro wc wr)) (fun x _ => es.length - (intOf x).toNat)
          case atStart => exact ⟨0, rfl, Nat.zero_le _, Lib.hid rfl, Lib.hid (Gro.refl _)⟩
          case round =>
            obtain ⟨k, rfl, hk, hE, hG⟩ := hrel
            obtain ⟨os, d, rfl⟩ := hG.out
            clear hG
            by_cases hlt : k < es.length
            · obtain ⟨ge, oe, e, rfl, hek, hce, be1, be2⟩ := ints_at m2 hlt
              have ha := all_at hek (isEnt ⟨[i, j], [a, b], es⟩)
              rw [hE.out] at ha
              have hc := gro_keeps hce os d
              have hel2 := World.block_lt_of_cell? _ _ hce
              simp only at hel2
              have z0' := gro_keeps z0 os d
              have z1' := gro_keeps z1 os d
              have z2' := gro_keeps z2 os d
              have hki : (k : Int) < (es.length : Int) := by omega
              have he64 : I64 e := ⟨be1, be2⟩
              clear hek hE
              have hno : isEnt ⟨[i, j], [a, b], es⟩ e = false → spaceOk ⟨[i, j], [a, b], es⟩ = false := fun h => by rw [HQ.out, ha, h]; rfl
              have hyes : isEnt ⟨[i, j], [a, b], es⟩ e = true → (es.drop (k + 1)).all (isEnt ⟨[i, j], [a, b], es⟩) = es.all (isEnt ⟨[i, j], [a, b], es⟩) := fun h => by rw [ha, h]; rfl
              rw [← HENT.out e] at hno hyes
              clear ha
              have hloc : (locGo [i, j] [a, b] e 0 = (0, e - a) ∧ a ≤ e ∧ e < a + i.Code.size) ∨ (locGo [i, j] [a, b] e 0 = (1, e - b) ∧ b ≤ e ∧ e < b + j.Code.size) ∨ locGo [i, j] [a, b] e 0 = (-1, -1) := by
                simp only [locGo]
                split
                · rename_i h; exact .inl ⟨rfl, h.1, h.2⟩
                · split
                  · rename_i h; exact .inr (.inl ⟨rfl, h.1, h.2⟩)
                  · exact .inr (.inr rfl)
              rcases hloc with ⟨hloc, q1, q2⟩ | ⟨hloc, q1, q2⟩ | hloc
              · have HL := Lib.hid hloc
                obtain ⟨off, hoff⟩ : ∃ off, e - a = off := ⟨_, rfl⟩
                have ho64 : I64 off := ⟨by omega, by omega⟩
                have hsg := symGo_some i.Symbols off 0
                rcases hsg with hsg | ⟨m, y, hsg, hym, _⟩
                · have HF := Lib.hid (hno (by simp [entS, loc, hloc, hoff, hsg]; split <;> rfl))
                  have HN := Lib.hid hsg
                  rw [hoff] at HL
                  clear hno hyes hloc hsg hoff
                  go_wp2_with (fail)
                  go_region_held3 (fun w' => w'.cell? ⟨g0, 0, none⟩ = some (.slice (some ⟨gi, oi, none⟩) 2 c0) ∧ w'.cell? ⟨g0, 1, none⟩ = some (.slice (some ⟨gb, ob, none⟩) 2 c1) ∧ w'.cell? ⟨g0, 2, none⟩ = some (.slice (some ⟨ge, oe, none⟩) es.length c2) ∧ w'.cell? ⟨ge, oe + k, none⟩ = some (.int .i64 e)) ((repeat' apply And.intro) <;> (first | ((repeat (first | assumption | with_reducible refine gro_keeps ?_ _ _ | with_reducible refine alloc_keeps ?_ _ | with_reducible refine drew_keeps ?_)); done) | (simp [go_sem]; done))) (first
                    | (go_at_call 82; (with_reducible refine (locate2_s (i := i) (j := j) (a := a) (b := b) (es := es) (e := e) (Ty.up _ m0 (by repeat (first | with_reducible exact Gro.refl _ | with_reducible exact Gro.refl_drew _ _ _ | with_reducible exact Gro.refl_drewN _ _ _ _ | assumption | with_reducible apply Gro.more | with_reducible apply Gro.alloc | with_reducible apply Gro.drew | with_reducible apply Gro.drewN))) (Ty.up _ m1 (by repeat (first | with_reducible exact Gro.refl _ | with_reducible exact Gro.refl_drew _ _ _ | with_reducible exact Gro.refl_drewN _ _ _ _ | assumption | with_reducible apply Gro.more | with_reducible apply Gro.alloc | with_reducible apply Gro.drew | with_reducible apply Gro.drewN))) hci hcj HA.out HB.out he64).mono ?_); rw [HL.out]; rintro e w1 ⟨rfl, os1, d1, rfl⟩))
                  go_wp2_with (go_at_call 83; (with_reducible refine (symAt_s (i := i) (Ty.up _ bi1 (by repeat (first | with_reducible exact Gro.refl _ | with_reducible exact Gro.refl_drew _ _ _ | with_reducible exact Gro.refl_drewN _ _ _ _ | assumption | with_reducible apply Gro.more | with_reducible apply Gro.alloc | with_reducible apply Gro.drew | with_reducible apply Gro.drewN))) ho64).mono ?_); rw [HN.out]; rintro e w2 ⟨rfl, os2, d2, rfl⟩)
                  go_ret
                  exact ⟨ret_bool HF.out.symm, hGc.trans (by (repeat (first | with_reducible exact Gro.refl _ | with_reducible exact Gro.refl_drew _ _ _ | with_reducible exact Gro.refl_drewN _ _ _ _ | assumption | with_reducible apply Gro.more | with_reducible apply Gro.alloc | with_reducible apply Gro.drew | with_reducible apply Gro.drewN)); done)⟩
                · rw [Nat.zero_add] at hsg
                  have hml : m < i.Symbols.length := (List.getElem?_eq_some_iff.1 hym).1
                  obtain ⟨gs, osy, y', hAe, hgs, hyk, hy0, hy1, hy2, by0, by1, by2⟩ := atSymbol bi1 hml
                  subst hAe
                  obtain rfl : y' = y := by rw [hyk] at hym; exact Option.some.inj hym
                  have hval : entS ⟨[i, j], [a, b], es⟩ e = decide (y'.Start = off) := by simp [entS, loc, hloc, hoff, hsg, hyk]
                  rw [hval] at hno hyes
                  have HN := Lib.hid hsg
                  rw [hoff] at HL
                  have hmi : (m : Int) < (i.Symbols.length : Int) := by omega
                  have v1 := cell_up hYw hy1
                  have hgsw : gs < wc.heap.size := Nat.lt_of_lt_of_le hgs hYw.size
                  have hgsY := hgs
                  clear hloc hsg hoff hyk hym hval
                  by_cases q3 : y'.Start = off
                  · have HF := Lib.hid (hyes (decide_eq_true q3))
                    have p3 : (y'.Start != off) = false := by simp [q3]
                    have p4 : decide ((m : Int) < 0) = false := decide_eq_false (by omega)
                    clear hno hyes q3
                    go_wp2_with (fail)
                    go_region_held3 (fun w' => w'.cell? ⟨g0, 0, none⟩ = some (.slice (some ⟨gi, oi, none⟩) 2 c0) ∧ w'.cell? ⟨g0, 1, none⟩ = some (.slice (some ⟨gb, ob, none⟩) 2 c1) ∧ w'.cell? ⟨g0, 2, none⟩ = some (.slice (some ⟨ge, oe, none⟩) es.length c2) ∧ w'.cell? ⟨ge, oe + k, none⟩ = some (.int .i64 e)) ((repeat' apply And.intro) <;> (first | ((repeat (first | assumption | with_reducible refine gro_keeps ?_ _ _ | with_reducible refine alloc_keeps ?_ _ | with_reducible refine drew_keeps ?_)); done) | (simp [go_sem]; done))) (first
                      | (go_at_call 82; (with_reducible refine (locate2_s (i := i) (j := j) (a := a) (b := b) (es := es) (e := e) (Ty.up _ m0 (by repeat (first | with_reducible exact Gro.refl _ | with_reducible exact Gro.refl_drew _ _ _ | with_reducible exact Gro.refl_drewN _ _ _ _ | assumption | with_reducible apply Gro.more | with_reducible apply Gro.alloc | with_reducible apply Gro.drew | with_reducible apply Gro.drewN))) (Ty.up _ m1 (by repeat (first | with_reducible exact Gro.refl _ | with_reducible exact Gro.refl_drew _ _ _ | with_reducible exact Gro.refl_drewN _ _ _ _ | assumption | with_reducible apply Gro.more | with_reducible apply Gro.alloc | with_reducible apply Gro.drew | with_reducible apply Gro.drewN))) hci hcj HA.out HB.out he64).mono ?_); rw [HL.out]; rintro e w1 ⟨rfl, os1, d1, rfl⟩))
                    go_wp2_with (go_at_call 83; (with_reducible refine (symAt_s (i := i) (Ty.up _ bi1 (by repeat (first | with_reducible exact Gro.refl _ | with_reducible exact Gro.refl_drew _ _ _ | with_reducible exact Gro.refl_drewN _ _ _ _ | assumption | with_reducible apply Gro.more | with_reducible apply Gro.alloc | with_reducible apply Gro.drew | with_reducible apply Gro.drewN))) ho64).mono ?_); rw [HN.out]; rintro e w2 ⟨rfl, os2, d2, rfl⟩)
                    go_roundw
                    case measure => (simp [intOf]; try omega)
                    case rel => exact ⟨k + 1, by go_num, by omega, HF, Lib.hid (by repeat (first | with_reducible exact Gro.refl _ | with_reducible exact Gro.refl_drew _ _ _ | with_reducible exact Gro.refl_drewN _ _ _ _ | assumption | with_reducible apply Gro.more | with_reducible apply Gro.alloc | with_reducible apply Gro.drew | with_reducible apply Gro.drewN))⟩
                  · have HF := Lib.hid (hno (decide_eq_false q3))
                    have p3 : (y'.Start != off) = true := by simp [q3]
                    have p4 : decide ((m : Int) < 0) = false := decide_eq_false (by omega)
                    clear hno hyes q3
                    go_wp2_with (fail)
                    go_region_held3 (fun w' => w'.cell? ⟨g0, 0, none⟩ = some (.slice (some ⟨gi, oi, none⟩) 2 c0) ∧ w'.cell? ⟨g0, 1, none⟩ = some (.slice (some ⟨gb, ob, none⟩) 2 c1) ∧ w'.cell? ⟨g0, 2, none⟩ = some (.slice (some ⟨ge, oe, none⟩) es.length c2) ∧ w'.cell? ⟨ge, oe + k, none⟩ = some (.int .i64 e)) ((repeat' apply And.intro) <;> (first | ((repeat (first | assumption | with_reducible refine gro_keeps ?_ _ _ | with_reducible refine alloc_keeps ?_ _ | with_reducible refine drew_keeps ?_)); done) | (simp [go_sem]; done))) (first
                      | (go_at_call 82; (with_reducible refine (locate2_s (i := i) (j := j) (a := a) (b := b) (es := es) (e := e) (Ty.up _ m0 (by repeat (first | with_reducible exact Gro.refl _ | with_reducible exact Gro.refl_drew _ _ _ | with_reducible exact Gro.refl_drewN _ _ _ _ | assumption | with_reducible apply Gro.more | with_reducible apply Gro.alloc | with_reducible apply Gro.drew | with_reducible apply Gro.drewN))) (Ty.up _ m1 (by repeat (first | with_reducible exact Gro.refl _ | with_reducible exact Gro.refl_drew _ _ _ | with_reducible exact Gro.refl_drewN _ _ _ _ | assumption | with_reducible apply Gro.more | with_reducible apply Gro.alloc | with_reducible apply Gro.drew | with_reducible apply Gro.drewN))) hci hcj HA.out HB.out he64).mono ?_); rw [HL.out]; rintro e w1 ⟨rfl, os1, d1, rfl⟩))
                    go_wp2_with (go_at_call 83; (with_reducible refine (symAt_s (i := i) (Ty.up _ bi1 (by repeat (first | with_reducible exact Gro.refl _ | with_reducible exact Gro.refl_drew _ _ _ | with_reducible exact Gro.refl_drewN _ _ _ _ | assumption | with_reducible apply Gro.more | with_reducible apply Gro.alloc | with_reducible apply Gro.drew | with_reducible apply Gro.drewN))) ho64).mono ?_); rw [HN.out]; rintro e w2 ⟨rfl, os2, d2, rfl⟩)
                    go_ret
                    exact ⟨ret_bool HF.out.symm, hGc.trans (by (repeat (first | with_reducible exact Gro.refl _ | with_reducible exact Gro.refl_drew _ _ _ | with_reducible exact Gro.refl_drewN _ _ _ _ | assumption | with_reducible apply Gro.more | with_reducible apply Gro.alloc | with_reducible apply Gro.drew | with_reducible apply Gro.drewN)); done)⟩
              · have HL := Lib.hid hloc
                obtain ⟨off, hoff⟩ : ∃ off, e - b = off := ⟨_, rfl⟩
                have ho64 : I64 off := ⟨by omega, by omega⟩
                have hsg := symGo_some j.Symbols off 0
                rcases hsg with hsg | ⟨m, y, hsg, hym, _⟩
                · have HF := Lib.hid (hno (by simp [entS, loc, hloc, hoff, hsg]; split <;> rfl))
                  have HN := Lib.hid hsg
                  rw [hoff] at HL
                  clear hno hyes hloc hsg hoff
                  go_wp2_with (fail)
                  go_region_held3 (fun w' => w'.cell? ⟨g0, 0, none⟩ = some (.slice (some ⟨gi, oi, none⟩) 2 c0) ∧ w'.cell? ⟨g0, 1, none⟩ = some (.slice (some ⟨gb, ob, none⟩) 2 c1) ∧ w'.cell? ⟨g0, 2, none⟩ = some (.slice (some ⟨ge, oe, none⟩) es.length c2) ∧ w'.cell? ⟨ge, oe + k, none⟩ = some (.int .i64 e)) ((repeat' apply And.intro) <;> (first | ((repeat (first | assumption | with_reducible refine gro_keeps ?_ _ _ | with_reducible refine alloc_keeps ?_ _ | with_reducible refine drew_keeps ?_)); done) | (simp [go_sem]; done))) (first
                    | (go_at_call 82; (with_reducible refine (locate2_s (i := i) (j := j) (a := a) (b := b) (es := es) (e := e) (Ty.up _ m0 (by repeat (first | with_reducible exact Gro.refl _ | with_reducible exact Gro.refl_drew _ _ _ | with_reducible exact Gro.refl_drewN _ _ _ _ | assumption | with_reducible apply Gro.more | with_reducible apply Gro.alloc | with_reducible apply Gro.drew | with_reducible apply Gro.drewN))) (Ty.up _ m1 (by repeat (first | with_reducible exact Gro.refl _ | with_reducible exact Gro.refl_drew _ _ _ | with_reducible exact Gro.refl_drewN _ _ _ _ | assumption | with_reducible apply Gro.more | with_reducible apply Gro.alloc | with_reducible apply Gro.drew | with_reducible apply Gro.drewN))) hci hcj HA.out HB.out he64).mono ?_); rw [HL.out]; rintro e w1 ⟨rfl, os1, d1, rfl⟩))
                  go_wp2_with (go_at_call 83; (with_reducible refine (symAt_s (i := j) (Ty.up _ bj1 (by repeat (first | with_reducible exact Gro.refl _ | with_reducible exact Gro.refl_drew _ _ _ | with_reducible exact Gro.refl_drewN _ _ _ _ | assumption | with_reducible apply Gro.more | with_reducible apply Gro.alloc | with_reducible apply Gro.drew | with_reducible apply Gro.drewN))) ho64).mono ?_); rw [HN.out]; rintro e w2 ⟨rfl, os2, d2, rfl⟩)
                  go_ret
                  exact ⟨ret_bool HF.out.symm, hGc.trans (by (repeat (first | with_reducible exact Gro.refl _ | with_reducible exact Gro.refl_drew _ _ _ | with_reducible exact Gro.refl_drewN _ _ _ _ | assumption | with_reducible apply Gro.more | with_reducible apply Gro.alloc | with_reducible apply Gro.drew | with_reducible apply Gro.drewN)); done)⟩
                · rw [Nat.zero_add] at hsg
                  have hml : m < j.Symbols.length := (List.getElem?_eq_some_iff.1 hym).1
                  obtain ⟨gs, osy, y', hAe, hgs, hyk, hy0, hy1, hy2, by0, by1, by2⟩ := atSymbol bj1 hml
                  subst hAe
                  obtain rfl : y' = y := by rw [hyk] at hym; exact Option.some.inj hym
                  have hval : entS ⟨[i, j], [a, b], es⟩ e = decide (y'.Start = off) := by simp [entS, loc, hloc, hoff, hsg, hyk]
                  rw [hval] at hno hyes
                  have HN := Lib.hid hsg
                  rw [hoff] at HL
                  have hmi : (m : Int) < (j.Symbols.length : Int) := by omega
                  have v1 := cell_up hYw hy1
                  have hgsw : gs < wc.heap.size := Nat.lt_of_lt_of_le hgs hYw.size
                  have hgsY := hgs
                  clear hloc hsg hoff hyk hym hval
                  by_cases q3 : y'.Start = off
                  · have HF := Lib.hid (hyes (decide_eq_true q3))
                    have p3 : (y'.Start != off) = false := by simp [q3]
                    have p4 : decide ((m : Int) < 0) = false := decide_eq_false (by omega)
                    clear hno hyes q3
                    go_wp2_with (fail)
                    go_region_held3 (fun w' => w'.cell? ⟨g0, 0, none⟩ = some (.slice (some ⟨gi, oi, none⟩) 2 c0) ∧ w'.cell? ⟨g0, 1, none⟩ = some (.slice (some ⟨gb, ob, none⟩) 2 c1) ∧ w'.cell? ⟨g0, 2, none⟩ = some (.slice (some ⟨ge, oe, none⟩) es.length c2) ∧ w'.cell? ⟨ge, oe + k, none⟩ = some (.int .i64 e)) ((repeat' apply And.intro) <;> (first | ((repeat (first | assumption | with_reducible refine gro_keeps ?_ _ _ | with_reducible refine alloc_keeps ?_ _ | with_reducible refine drew_keeps ?_)); done) | (simp [go_sem]; done))) (first
                      | (go_at_call 82; (with_reducible refine (locate2_s (i := i) (j := j) (a := a) (b := b) (es := es) (e := e) (Ty.up _ m0 (by repeat (first | with_reducible exact Gro.refl _ | with_reducible exact Gro.refl_drew _ _ _ | with_reducible exact Gro.refl_drewN _ _ _ _ | assumption | with_reducible apply Gro.more | with_reducible apply Gro.alloc | with_reducible apply Gro.drew | with_reducible apply Gro.drewN))) (Ty.up _ m1 (by repeat (first | with_reducible exact Gro.refl _ | with_reducible exact Gro.refl_drew _ _ _ | with_reducible exact Gro.refl_drewN _ _ _ _ | assumption | with_reducible apply Gro.more | with_reducible apply Gro.alloc | with_reducible apply Gro.drew | with_reducible apply Gro.drewN))) hci hcj HA.out HB.out he64).mono ?_); rw [HL.out]; rintro e w1 ⟨rfl, os1, d1, rfl⟩))
                    go_wp2_with (go_at_call 83; (with_reducible refine (symAt_s (i := j) (Ty.up _ bj1 (by repeat (first | with_reducible exact Gro.refl _ | with_reducible exact Gro.refl_drew _ _ _ | with_reducible exact Gro.refl_drewN _ _ _ _ | assumption | with_reducible apply Gro.more | with_reducible apply Gro.alloc | with_reducible apply Gro.drew | with_reducible apply Gro.drewN))) ho64).mono ?_); rw [HN.out]; rintro e w2 ⟨rfl, os2, d2, rfl⟩)
                    go_roundw
                    case measure => (simp [intOf]; try omega)
                    case rel => exact ⟨k + 1, by go_num, by omega, HF, Lib.hid (by repeat (first | with_reducible exact Gro.refl _ | with_reducible exact Gro.refl_drew _ _ _ | with_reducible exact Gro.refl_drewN _ _ _ _ | assumption | with_reducible apply Gro.more | with_reducible apply Gro.alloc | with_reducible apply Gro.drew | with_reducible apply Gro.drewN))⟩
                  · have HF := Lib.hid (hno (decide_eq_false q3))
                    have p3 : (y'.Start != off) = true := by simp [q3]
                    have p4 : decide ((m : Int) < 0) = false := decide_eq_false (by omega)
                    clear hno hyes q3
                    go_wp2_with (fail)
                    go_region_held3 (fun w' => w'.cell? ⟨g0, 0, none⟩ = some (.slice (some ⟨gi, oi, none⟩) 2 c0) ∧ w'.cell? ⟨g0, 1, none⟩ = some (.slice (some ⟨gb, ob, none⟩) 2 c1) ∧ w'.cell? ⟨g0, 2, none⟩ = some (.slice (some ⟨ge, oe, none⟩) es.length c2) ∧ w'.cell? ⟨ge, oe + k, none⟩ = some (.int .i64 e)) ((repeat' apply And.intro) <;> (first | ((repeat (first | assumption | with_reducible refine gro_keeps ?_ _ _ | with_reducible refine alloc_keeps ?_ _ | with_reducible refine drew_keeps ?_)); done) | (simp [go_sem]; done))) (first
                      | (go_at_call 82; (with_reducible refine (locate2_s (i := i) (j := j) (a := a) (b := b) (es := es) (e := e) (Ty.up _ m0 (by repeat (first | with_reducible exact Gro.refl _ | with_reducible exact Gro.refl_drew _ _ _ | with_reducible exact Gro.refl_drewN _ _ _ _ | assumption | with_reducible apply Gro.more | with_reducible apply Gro.alloc | with_reducible apply Gro.drew | with_reducible apply Gro.drewN))) (Ty.up _ m1 (by repeat (first | with_reducible exact Gro.refl _ | with_reducible exact Gro.refl_drew _ _ _ | with_reducible exact Gro.refl_drewN _ _ _ _ | assumption | with_reducible apply Gro.more | with_reducible apply Gro.alloc | with_reducible apply Gro.drew | with_reducible apply Gro.drewN))) hci hcj HA.out HB.out he64).mono ?_); rw [HL.out]; rintro e w1 ⟨rfl, os1, d1, rfl⟩))
                    go_wp2_with (go_at_call 83; (with_reducible refine (symAt_s (i := j) (Ty.up _ bj1 (by repeat (first | with_reducible exact Gro.refl _ | with_reducible exact Gro.refl_drew _ _ _ | with_reducible exact Gro.refl_drewN _ _ _ _ | assumption | with_reducible apply Gro.more | with_reducible apply Gro.alloc | with_reducible apply Gro.drew | with_reducible apply Gro.drewN))) ho64).mono ?_); rw [HN.out]; rintro e w2 ⟨rfl, os2, d2, rfl⟩)
                    go_ret
                    exact ⟨ret_bool HF.out.symm, hGc.trans (by (repeat (first | with_reducible exact Gro.refl _ | with_reducible exact Gro.refl_drew _ _ _ | with_reducible exact Gro.refl_drewN _ _ _ _ | assumption | with_reducible apply Gro.more | with_reducible apply Gro.alloc | with_reducible apply Gro.drew | with_reducible apply Gro.drewN)); done)⟩
              · have HL := Lib.hid hloc
                have HF := Lib.hid (hno (by simp [entS, loc, hloc]))
                clear hno hyes hloc
                go_wp2_with (fail)
                go_region_held3 (fun w' => w'.cell? ⟨g0, 0, none⟩ = some (.slice (some ⟨gi, oi, none⟩) 2 c0) ∧ w'.cell? ⟨g0, 1, none⟩ = some (.slice (some ⟨gb, ob, none⟩) 2 c1) ∧ w'.cell? ⟨g0, 2, none⟩ = some (.slice (some ⟨ge, oe, none⟩) es.length c2) ∧ w'.cell? ⟨ge, oe + k, none⟩ = some (.int .i64 e)) ((repeat' apply And.intro) <;> (first | ((repeat (first | assumption | with_reducible refine gro_keeps ?_ _ _ | with_reducible refine alloc_keeps ?_ _ | with_reducible refine drew_keeps ?_)); done) | (simp [go_sem]; done))) (first
                  | (go_at_call 82; (with_reducible refine (locate2_s (i := i) (j := j) (a := a) (b := b) (es := es) (e := e) (Ty.up _ m0 (by repeat (first | with_reducible exact Gro.refl _ | with_reducible exact Gro.refl_drew _ _ _ | with_reducible exact Gro.refl_drewN _ _ _ _ | assumption | with_reducible apply Gro.more | with_reducible apply Gro.alloc | with_reducible apply Gro.drew | with_reducible apply Gro.drewN))) (Ty.up _ m1 (by repeat (first | with_reducible exact Gro.refl _ | with_reducible exact Gro.refl_drew _ _ _ | with_reducible exact Gro.refl_drewN _ _ _ _ | assumption | with_reducible apply Gro.more | with_reducible apply Gro.alloc | with_reducible apply Gro.drew | with_reducible apply Gro.drewN))) hci hcj HA.out HB.out he64).mono ?_); rw [HL.out]; rintro e w1 ⟨rfl, os1, d1, rfl⟩))
                go_wp2_with (fail)
                go_ret
                exact ⟨ret_bool HF.out.symm, hGc.trans (by (repeat (first | with_reducible exact Gro.refl _ | with_reducible exact Gro.refl_drew _ _ _ | with_reducible exact Gro.refl_drewN _ _ _ _ | assumption | with_reducible apply Gro.more | with_reducible apply Gro.alloc | with_reducible apply Gro.drew | with_reducible apply Gro.drewN)); done)⟩
            · obtain rfl : k = es.length := by omega
              have z2' := gro_keeps z2 os d
              have HF := Lib.hid (show spaceOk ⟨[i, j], [a, b], es⟩ = true from by rw [HQ.out, ← hE.out, List.drop_length]; rfl)
              clear hE
              go_wp2_with (fail)
              go_ret
              exact ⟨ret_bool HF.out.symm, hGc.trans (by (repeat (first | with_reducible exact Gro.refl _ | with_reducible exact Gro.refl_drew _ _ _ | with_reducible exact Gro.refl_drewN _ _ _ _ | assumption | with_reducible apply Gro.more | with_reducible apply Gro.alloc | with_reducible apply Gro.drew | with_reducible apply Gro.drewN)); done)⟩
end Go.Proofs.Ytbhobjepjaeffaa
