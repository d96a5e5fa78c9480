/-
  DECP_S, PART 2: DecodeProfile of the reference, the walk.
-/
import Derived.Test.YtcomafmiclkmhaaDecP2
import Derived.Test.YtcomafmiclkmhaaRegT
set_option linter.unusedVariables false
set_option linter.unusedSimpArgs false
namespace Go.Proofs.Ytcomafmiclkmhaa
open Go.RowKit
set_option maxRecDepth 100000 in
set_option maxHeartbeats 8000000 in
theorem decP_s (s : ByteArray) (w : World) (hs : s.size ≤ 1099511600000) : Calls Try.prog 4 #[.string s] w (RetProfileBool (decP s) w) := by
  have hs0 : s.size ≤ 1099511620000 := by omega
  have hs2 : s.size ≤ 1099511627776 := by omega
  obtain ⟨n0, z0, ok0, hd0⟩ : ∃ n z ok, decV s (0 : Int) = (n, z, ok) := ⟨_, _, _, rfl⟩
  have hz0 : z0 ≤ s.size := by
    cases ok0 with
    | true => have := (decV_bd hd0).2.2.2.1; omega
    | false => rw [(decV_zero hd0).2]; omega
  have hn0b : n0 ≤ 1099511627775 := by
    cases ok0 with
    | true => exact (decV_bd hd0).2.2.2.2
    | false => rw [(decV_zero hd0).1]; omega
  have HD0 := Lib.hid hd0
  have hI0 : I64 0 := ⟨by omega, by omega⟩
  clear hd0
  go_enter Try.func4, Try.ntmps4
  go_wp2_with (go_at_call 9; (with_reducible refine (decV_s s 0 _ hs2 hI0).mono ?_); rw [HD0.out]; rintro e w1 ⟨rfl, os1, d1, rfl⟩)
  have hY : Gro w ((gro ((w.alloc (.cells #[.slice none 0 0, .slice none 0 0] 27)).alloc (.cells #[.slice none 0 0, .slice none 0 0] 27)) os1 d1).alloc (.cells #[] 9)) := (by repeat (first | with_reducible exact Gro.refl _ | with_reducible exact Gro.refl_drew _ _ _ | with_reducible exact Gro.refl_drewN _ _ _ _ | assumption | with_reducible apply Gro.more | with_reducible apply Gro.alloc | with_reducible apply Gro.drew | with_reducible apply Gro.drewN))
  have er : ((gro ((w.alloc (.cells #[.slice none 0 0, .slice none 0 0] 27)).alloc (.cells #[.slice none 0 0, .slice none 0 0] 27)) os1 d1).alloc (.cells #[] 9)).heap[w.heap.size]? = some (.cells #[.slice none 0 0, .slice none 0 0] 27 (0, 0)) := grow_blk (heap_alloc_new w _) (by (repeat (first | with_reducible exact Gro.refl _ | with_reducible exact Gro.refl_drew _ _ _ | with_reducible exact Gro.refl_drewN _ _ _ _ | assumption | with_reducible apply Gro.more | with_reducible apply Gro.alloc | with_reducible apply Gro.drew | with_reducible apply Gro.drewN)); done)
  have ern : ((gro ((w.alloc (.cells #[.slice none 0 0, .slice none 0 0] 27)).alloc (.cells #[.slice none 0 0, .slice none 0 0] 27)) os1 d1).alloc (.cells #[] 9)).heap[w.heap.size + 1]? = some (.cells #[.slice none 0 0, .slice none 0 0] 27 (0, 0)) := grow_blk (show ((w.alloc (.cells #[.slice none 0 0, .slice none 0 0] 27)).alloc (.cells #[.slice none 0 0, .slice none 0 0] 27)).heap[w.heap.size + 1]? = _ from by have h := heap_alloc_new (w.alloc (.cells #[.slice none 0 0, .slice none 0 0] 27)) (.cells #[.slice none 0 0, .slice none 0 0] 27); rw [World.size_alloc] at h; exact h) (by (repeat (first | with_reducible exact Gro.refl _ | with_reducible exact Gro.refl_drew _ _ _ | with_reducible exact Gro.refl_drewN _ _ _ _ | assumption | with_reducible apply Gro.more | with_reducible apply Gro.alloc | with_reducible apply Gro.drew | with_reducible apply Gro.drewN)); done)
  have en : ((gro ((w.alloc (.cells #[.slice none 0 0, .slice none 0 0] 27)).alloc (.cells #[.slice none 0 0, .slice none 0 0] 27)) os1 d1).alloc (.cells #[] 9)).heap[w.heap.size + 1 + 1 + os1.size]? = some (.cells #[] 9 (0, 0)) := by have h := heap_alloc_new (gro ((w.alloc (.cells #[.slice none 0 0, .slice none 0 0] 27)).alloc (.cells #[.slice none 0 0, .slice none 0 0] 27)) os1 d1) (.cells #[] 9); rw [gro_size, World.size_alloc, World.size_alloc] at h; exact h
  obtain ⟨g, hg⟩ : ∃ g, w.heap.size = g := ⟨_, rfl⟩
  obtain ⟨gn, hgn⟩ : ∃ gn, g + 1 + 1 + os1.size = gn := ⟨_, rfl⟩
  have hgg : g + 1 < gn := by omega
  rw [hg] at er ern en ⊢
  rw [hgn] at en ⊢
  generalize ((gro ((w.alloc (.cells #[.slice none 0 0, .slice none 0 0] 27)).alloc (.cells #[.slice none 0 0, .slice none 0 0] 27)) os1 d1).alloc (.cells #[] 9)) = Y at hY er ern en ⊢
  go_loopw [6, 7, 8, 9] (fun a b c d wr => ∃ (k at_ : Nat) (okb : Bool) (ns : List ByteArray) (A0 : Option Addr) (c0 : Nat) (S0 : List Nat), a = .int .i64 at_ ∧ b = .bool okb ∧ c = .slice A0 ns.length c0 ∧ d = .int .i64 k ∧ k ≤ n0 ∧ at_ ≤ s.size ∧ ns.length ≤ at_ + 1 ∧ (okb = true → ns.length ≤ at_) ∧ Hid (okb = true → ok0 = true ∧ rdNames s (n0 - k) at_ ns = rdNames s n0 z0 []) ∧ Hid (okb = false → rawP s = none) ∧ Gro w wr ∧ Hid (wr.heap[g]? = some (.cells #[.slice none 0 0, .slice none 0 0] 27 (0, 0))) ∧ Hid (wr.heap[g + 1]? = some (.cells #[.slice none 0 0, .slice none 0 0] 27 (0, 0))) ∧ Has (strT.sl 9) wr [.slice A0 ns.length c0] ns S0 ∧ Hid (∀ b ∈ S0, g + 1 < b)) (fun _ _ _ d _ => n0 - (intOf d).toNat)
  case atStart => exact ⟨0, z0, ok0, [], _, 0, [gn], rfl, rfl, rfl, rfl, by omega, hz0, by simp, by simp, Lib.hid (fun h => ⟨h, rfl⟩), Lib.hid (fun h => by
    have h1 := HD0.out
    rw [h] at h1
    exact rawP_0 h1), hY, Lib.hid er, Lib.hid ern, Has.emp strT en, Lib.hid (by simp; omega)⟩
  case round =>
    clear hY er ern en
    obtain ⟨k, at_, okb, ns, A0, c0, S0, rfl, rfl, rfl, rfl, hk, hat, hnl, hnl2, hok, hbad, hG, hret, hnon, hH, hl0⟩ := hrel
    have hgl := (Array.getElem?_eq_some_iff.1 hret.out).1
    have hgl1 := (Array.getElem?_eq_some_iff.1 hnon.out).1
    go_upto_region 5 with fail
    go_cut [36] from 31 to 37 (fun b wx => b = .bool (decide (k < n0) && okb) ∧ wx = wr)
    case first =>
      by_cases hj : k < n0
      · have hj2 : (k : Int) < (n0 : Int) := by omega
        have hj3 : decide ((k : Int) < (n0 : Int)) = true := decide_eq_true hj2
        go_wp2_with fail
        go_meet
        exact ⟨by rw [decide_eq_true hj]; simp, rfl⟩
      · have hj2 : ¬ (k : Int) < (n0 : Int) := by omega
        have hj3 : decide ((k : Int) < (n0 : Int)) = false := decide_eq_false hj2
        go_wp2_with fail
        go_meet
        exact ⟨by rw [decide_eq_false hj]; simp, rfl⟩
    case rest =>
      obtain ⟨rfl, rfl⟩ := hcut
      have hat64 : I64 (at_ : Int) := ⟨by omega, by omega⟩
      cases hgo : (decide (k < n0) && okb)
      · have hk0 : okb = true → k = n0 := fun h => by
          subst h
          simp at hgo
          omega
        have hnm : Hid (okb = true → ok0 = true ∧ rdNames s n0 z0 [] = some (ns, at_)) := Lib.hid (fun h => by
          obtain ⟨h1, h2⟩ := hok.out h
          have h3 := hk0 h
          subst h3
          rw [Nat.sub_self] at h2
          exact ⟨h1, by rw [← h2]; rfl⟩)
        obtain ⟨n2, z2, ok2, hd2⟩ : ∃ n z ok, decV s (at_ : Int) = (n, z, ok) := ⟨_, _, _, rfl⟩
        have hz2 : at_ + z2 ≤ s.size := by
          cases ok2 with
          | true => have := (decV_bd hd2).2.2.2.1; omega
          | false => rw [(decV_zero hd2).2]; omega
        have hn2b : n2 ≤ 1099511627775 := by
          cases ok2 with
          | true => exact (decV_bd hd2).2.2.2.2
          | false => rw [(decV_zero hd2).1]; omega
        have HB2 := Lib.hid (show (okb && ok2) = false → rawP s = none from fun h => by
          cases okb with
          | false => exact hbad.out rfl
          | true =>
            obtain ⟨h1, h2⟩ := hnm.out rfl
            have h3 := HD0.out
            rw [h1] at h3
            have h4 : ok2 = false := by simpa using h
            subst h4
            exact rawP_2 h3 h2 hd2)
        have HN2 := Lib.hid (show (okb && ok2) = true → rdNodes s ns n2 (at_ + z2) nilP = rawP s from fun h => by
          simp only [Bool.and_eq_true] at h
          obtain ⟨rfl, rfl⟩ := h
          obtain ⟨h1, h2⟩ := hnm.out rfl
          have h3 := HD0.out
          rw [h1] at h3
          exact (rawP_ok h3 h2 hd2).symm)
        have HD2 := Lib.hid hd2
        have HL2 := Lib.hid hnl2
        obtain ⟨r0, r1, rf0, rf1, rl⟩ := box2 hret.out
        obtain ⟨x0, x1, xf0, xf1, xl⟩ := box2 hnon.out
        have hw1 : IntKind.i64.wrap ((at_ : Int) + (z2 : Int)) = (at_ : Int) + (z2 : Int) := IntWalk.i64_in _ ⟨by omega, by omega⟩
        clear hd2 hok hbad hnl2 hk0 hnm hgo
        cases hbk : (okb && ok2)
        · have HR := Lib.hid (decP_none (HB2.out hbk))
          cases okb
          all_goals cases ok2
          all_goals first
            | (exfalso; revert hbk; decide)
            | skip
          all_goals clear hbk
          all_goals go_wp2_with (go_at_call 9; (with_reducible refine (decV_s s (at_ : Int) _ hs2 hat64).mono ?_); rw [HD2.out]; rintro e w4 ⟨rfl, os4, d4, rfl⟩)
          all_goals
            have h2 := set2 hret.out (.slice none 0 0) (.slice none 0 0)
            have hz := box2 h2.1
            exact bodyPost_ret (v := .tuple #[.agg #[.slice none 0 0, .slice none 0 0], .bool false]) (by simp [results, Try.results4, go_sem, hz, rl]) rfl (ret_profile_bool HR.out (fresh_nilP _ _) ((h2.2.gro hG (fun b hb => by simp at hb; omega)).trans (by (repeat (first | with_reducible exact Gro.refl _ | with_reducible exact Gro.refl_drew _ _ _ | with_reducible exact Gro.refl_drewN _ _ _ _ | assumption | with_reducible apply Gro.more | with_reducible apply Gro.alloc | with_reducible apply Gro.drew | with_reducible apply Gro.drewN)); done)))
        · simp only [Bool.and_eq_true] at hbk
          obtain ⟨rfl, rfl⟩ := hbk
          have hnl3 := HL2.out rfl
          have HN3 := Lib.hid (HN2.out rfl)
          clear HB2 HN2 HL2 r0 r1 rf0 rf1 rl x0 x1 xf0 xf1 xl
          go_wp2_with (go_at_call 9; (with_reducible refine (decV_s s (at_ : Int) _ hs2 hat64).mono ?_); rw [HD2.out]; rintro e w4 ⟨rfl, os4, d4, rfl⟩)
          have hGV : Gro wc ((gro wc os4 d4).alloc (.cells #[.slice none 0 0, .slice none 0 0] 27)) := (by repeat (first | with_reducible exact Gro.refl _ | with_reducible exact Gro.refl_drew _ _ _ | with_reducible exact Gro.refl_drewN _ _ _ _ | assumption | with_reducible apply Gro.more | with_reducible apply Gro.alloc | with_reducible apply Gro.drew | with_reducible apply Gro.drewN))
          have egp := heap_alloc_new (gro wc os4 d4) (.cells #[.slice none 0 0, .slice none 0 0] 27)
          rw [gro_size] at egp
          obtain ⟨gp, hgp⟩ : ∃ gp, wc.heap.size + os4.size = gp := ⟨_, rfl⟩
          have hggp : g + 1 < gp := by omega
          rw [hgp] at egp ⊢
          have E0 : ESt w ((gro wc os4 d4).alloc (.cells #[.slice none 0 0, .slice none 0 0] 27)) g gp ns A0 c0 S0 nilP none 0 [] none 0 [] := ⟨grow_blk hnon.out hGV, hG.trans hGV, grow_blk hret.out hGV, egp, hH.gro hGV, Has.nil _ _ _, Has.nil _ _ _, fun b hb => ⟨hl0.out b hb, by have := hH.lt b hb; omega⟩, by simp, by simp, by simp, hggp, by omega⟩
          generalize ((gro wc os4 d4).alloc (.cells #[.slice none 0 0, .slice none 0 0] 27)) = V at E0 ⊢
          clear hGV egp hH hret hnon hG hgl hgl1
          go_loopw [6, 17] (fun a b wr => ∃ (k at_ : Nat) (p : DProfile) (A2 : Option Addr) (c2 : Nat) (A3 : Option Addr) (c3 : Nat) (S2 S3 : List Nat), a = .int .i64 at_ ∧ b = .int .i64 k ∧ k ≤ n2 ∧ at_ ≤ s.size ∧ p.Stacks.Nodes.length ≤ at_ ∧ p.Counts.length ≤ at_ ∧ Hid (rdNodes s ns (n2 - k) at_ p = rawP s) ∧ ESt w wr g gp ns A0 c0 S0 p A2 c2 S2 A3 c3 S3) (fun _ b _ => n2 - (intOf b).toNat)
          case atStart => exact ⟨0, at_ + z2, nilP, none, 0, none, 0, [], [], rfl, rfl, by omega, hz2, Nat.zero_le _, Nat.zero_le _, HN3, E0⟩
          case round =>
            clear E0 HN3 hz2 hnl hnl3 hat hat64 hw1
            obtain ⟨k, at_, p, A2, c2, A3, c3, S2, S3, rfl, rfl, hk2, hat, hpn, hpc, hok, E0⟩ := hrel
            by_cases hlt : k < n2
            · have hki : (k : Int) < (n2 : Int) := by omega
              have hnk : n2 - k = (n2 - (k + 1)) + 1 := by omega
              rw [hnk] at hok
              obtain ⟨U, hU⟩ : ∃ U, U = wr := ⟨_, rfl⟩
              subst hU
              go_wp2_with (fail)
              have ev := heap_alloc_new U (.cells #[] 3)
              go_loopw [6, 18, 19] (fun a b c we => ∃ (i : Nat) (Av : Option Addr) (cv : Nat) (Sv : List Nat), a = .int .i64 ((posN s at_ i : Nat) : Int) ∧ b = .slice Av i cv ∧ c = .int .i64 i ∧ i ≤ 4 ∧ Hid (∀ j, j < i → okN s at_ j = true) ∧ Hid (Gro U we) ∧ Has (intT.sl 3) we [.slice Av i cv] (vals s at_ i) Sv ∧ (∀ b ∈ Sv, U.heap.size ≤ b)) (fun _ _ c _ => 4 - (intOf c).toNat)
              case atStart => exact ⟨0, _, 0, [U.heap.size], rfl, rfl, rfl, by omega, Lib.hid (fun j h => absurd h (Nat.not_lt_zero _)), Lib.hid (by repeat (first | with_reducible exact Gro.refl _ | with_reducible exact Gro.refl_drew _ _ _ | with_reducible exact Gro.refl_drewN _ _ _ _ | assumption | with_reducible apply Gro.more | with_reducible apply Gro.alloc | with_reducible apply Gro.drew | with_reducible apply Gro.drewN)), Has.emp intT ev, by simp⟩
              case round =>
                obtain ⟨i, Av, cv, Sv, rfl, rfl, rfl, hi, hall, hGe, hHv, hlv⟩ := hrel
                have E1 := E0.more hGe.out
                have hUs := hGe.out.size
                by_cases hi4 : i < 4
                · have hps := posN_le hat i
                  have hvb := valN_bd s at_ i
                  have hsn := vals_snoc s at_ i
                  have hdec := posN_eq s at_ i
                  have hp1 : posN s at_ (i + 1) = posN s at_ i + (decV s (posN s at_ i : Nat)).2.1 := rfl
                  have hpl := posN_le hat (i + 1)
                  have hadv := @posN_adv s at_ i
                  have hfb := @four_bad s at_ i hi4 hall.out
                  have hii : (i : Int) < 4 := by omega
                  obtain ⟨kk, hkk⟩ : ∃ kk, okN s at_ i = kk := ⟨_, rfl⟩
                  have hdec2 : decV s ((posN s at_ i : Nat) : Int) = (valN s at_ i, (decV s (posN s at_ i : Nat)).2.1, kk) := by rw [← hkk]; exact hdec
                  obtain ⟨z, hz⟩ : ∃ z, (decV s (posN s at_ i : Nat)).2.1 = z := ⟨_, rfl⟩
                  rw [hz] at hp1 hdec2
                  obtain ⟨ps, hpse⟩ : ∃ ps, posN s at_ i = ps := ⟨_, rfl⟩
                  obtain ⟨vl, hvle⟩ : ∃ vl, valN s at_ i = vl := ⟨_, rfl⟩
                  rw [hpse] at hdec2 hps hp1 ⊢
                  rw [hvle] at hdec2 hvb hsn
                  rw [hp1] at hpl
                  have HDE := Lib.hid hdec2
                  have hps64 : I64 (ps : Int) := ⟨by omega, by omega⟩
                  have hw1 : IntKind.i64.wrap ((ps : Int) + (z : Int)) = (ps : Int) + (z : Int) := IntWalk.i64_in _ ⟨by omega, by omega⟩
                  have HSN := Lib.hid hsn
                  have HP1 := Lib.hid hp1
                  cases kk
                  · have HR := Lib.hid (decP_none (s := s) (by rw [← hok.out]; exact rdNodes_bad (hfb hkk)))
                    obtain ⟨r0, r1, rf0, rf1, rl⟩ := box2 E1.ret
                    obtain ⟨x0, x1, xf0, xf1, xl⟩ := box2 E1.rd
                    have hwg := E1.wg
                    clear hdec hdec2 hz hpse hvle hsn hp1 hadv hfb hkk hw1
                    go_wp2_with (go_at_call 9; (with_reducible refine (decV_s s (ps : Int) _ hs2 hps64).mono ?_); rw [HDE.out]; rintro e w4 ⟨rfl, os4, d4, rfl⟩)
                    have h2 := set2 E1.ret (.slice none 0 0) (.slice none 0 0)
                    have hz := box2 h2.1
                    exact bodyPost_ret (v := .tuple #[.agg #[.slice none 0 0, .slice none 0 0], .bool false]) (by simp [results, Try.results4, go_sem, hz, rl]) rfl (ret_profile_bool HR.out (fresh_nilP _ _) ((h2.2.gro E1.gro (fun b hb => by simp at hb; omega)).trans (by (repeat (first | with_reducible exact Gro.refl _ | with_reducible exact Gro.refl_drew _ _ _ | with_reducible exact Gro.refl_drewN _ _ _ _ | assumption | with_reducible apply Gro.more | with_reducible apply Gro.alloc | with_reducible apply Gro.drew | with_reducible apply Gro.drewN)); done)))
                  · have HALL := Lib.hid (show ∀ j, j < i + 1 → okN s at_ j = true from fun j h => by
                      by_cases hji : j = i
                      · subst hji; exact hkk
                      · exact hall.out j (by omega))
                    have hv64 : I64 (vl : Int) := ⟨by omega, by omega⟩
                    clear hdec hdec2 hz hpse hvle hsn hp1 hadv hfb hkk
                    go_wp2_with (first
                      | (go_at_call 9; (with_reducible refine (decV_s s (ps : Int) _ hs2 hps64).mono ?_); rw [HDE.out]; rintro e w4 ⟨rfl, os4, d4, rfl⟩)
                      | (refine wpList_append_hasf (L := i + 1) (y := (vl : Int)) rfl (.tmp 92) (.tmp 94) elInt flat_int (S := Sv) (hHv.gro (by (repeat (first | with_reducible exact Gro.refl _ | with_reducible exact Gro.refl_drew _ _ _ | with_reducible exact Gro.refl_drewN _ _ _ _ | assumption | with_reducible apply Gro.more | with_reducible apply Gro.alloc | with_reducible apply Gro.drew | with_reducible apply Gro.drewN)); done)) (ec := [.int .i64 (vl : Int)]) (W1 := w) (B := 0) ⟨rfl, hv64.1, hv64.2⟩ rfl rfl rfl (by intro j u hu; simpa [go_sem] using hu) rfl (by omega) (by omega) ?_; intro A7 c7 W7 S7 hon hH7 hS7))
                    go_roundw
                    case measure => (simp [intOf]; try omega)
                    case rel =>
                      refine ⟨i + 1, A7, c7, S7, by rw [HP1.out]; go_num, rfl, by go_num, by omega, HALL, Lib.hid (hon.gro (hGe.out.trans (by (repeat (first | with_reducible exact Gro.refl _ | with_reducible exact Gro.refl_drew _ _ _ | with_reducible exact Gro.refl_drewN _ _ _ _ | assumption | with_reducible apply Gro.more | with_reducible apply Gro.alloc | with_reducible apply Gro.drew | with_reducible apply Gro.drewN)); done)) hlv), by rw [HSN.out]; exact hH7, fun b hb => ?_⟩
                      rcases hS7 b hb with h | h
                      · exact hlv b h
                      · simp at h; omega
                · obtain rfl : i = 4 := by omega
                  have hfo := four_ok hall.out
                  have hok4 := hall.out
                  have hp4 := posN_le hat 4
                  have ha1 : at_ + 1 ≤ posN s at_ 1 := posN_adv (hok4 0 (by omega))
                  obtain ⟨g4, o4, m0, hA0, hm0, hc0', hb0⟩ := ints_at hHv.read (k := 0) (by rw [vals_len]; omega)
                  obtain ⟨g4a, o4a, m1, hA1, hm1, hc1', hb1⟩ := ints_at hHv.read (k := 1) (by rw [vals_len]; omega)
                  obtain ⟨g4b, o4b, m2, hA2, hm2, hc2', hb2⟩ := ints_at hHv.read (k := 2) (by rw [vals_len]; omega)
                  obtain ⟨g4c, o4c, m3, hA3, hm3, hc3', hb3⟩ := ints_at hHv.read (k := 3) (by rw [vals_len]; omega)
                  subst hA0
                  simp only [Option.some.injEq, Addr.mk.injEq, and_true] at hA1 hA2 hA3
                  obtain ⟨rfl, rfl⟩ := hA1
                  obtain ⟨rfl, rfl⟩ := hA2
                  obtain ⟨rfl, rfl⟩ := hA3
                  rw [vals_get (by omega)] at hm0 hm1 hm2 hm3
                  injection hm0 with hm0
                  injection hm1 with hm1
                  injection hm2 with hm2
                  injection hm3 with hm3
                  have d0 := valN_bd s at_ 0
                  have d1 := valN_bd s at_ 1
                  have d2 := valN_bd s at_ 2
                  have d3 := valN_bd s at_ 3
                  obtain ⟨v0, hv0⟩ : ∃ v0, valN s at_ 0 = v0 := ⟨_, rfl⟩
                  obtain ⟨v1, hv1⟩ : ∃ v1, valN s at_ 1 = v1 := ⟨_, rfl⟩
                  obtain ⟨v2, hv2⟩ : ∃ v2, valN s at_ 2 = v2 := ⟨_, rfl⟩
                  obtain ⟨v3, hv3⟩ : ∃ v3, valN s at_ 3 = v3 := ⟨_, rfl⟩
                  rw [hv0] at hm0 d0 hfo
                  rw [hv1] at hm1 d1 hfo
                  rw [hv2] at hm2 d2 hfo
                  rw [hv3] at hm3 d3 hfo
                  subst hm0 hm1 hm2 hm3
                  have HFO := Lib.hid hfo
                  have ha2 : posN s at_ 1 ≤ posN s at_ 4 := by
                    have q1 : posN s at_ 1 + 1 ≤ posN s at_ 2 := posN_adv (hok4 1 (by omega))
                    have q2 : posN s at_ 2 + 1 ≤ posN s at_ 3 := posN_adv (hok4 2 (by omega))
                    have q3 : posN s at_ 3 + 1 ≤ posN s at_ 4 := posN_adv (hok4 3 (by omega))
                    omega
                  clear hv0 hv1 hv2 hv3 hfo hok4 hb0 hb1 hb2 hb3
                  simp only [Nat.add_zero] at hc0'
                  by_cases hfar : ns.length ≤ v1
                  · have HR := Lib.hid (decP_none (s := s) (by rw [← hok.out]; exact rdNodes_far HFO.out hfar))
                    have hfi : ¬ (v1 : Int) < (ns.length : Int) := by omega
                    have hfi2 : (ns.length : Int) ≤ (v1 : Int) := by omega
                    obtain ⟨r0, r1, rf0, rf1, rl⟩ := box2 E1.ret
                    obtain ⟨x0, x1, xf0, xf1, xl⟩ := box2 E1.rd
                    have hwg := E1.wg
                    go_wp2_with fail
                    have h2 := set2 E1.ret (.slice none 0 0) (.slice none 0 0)
                    have hz := box2 h2.1
                    exact bodyPost_ret (v := .tuple #[.agg #[.slice none 0 0, .slice none 0 0], .bool false]) (by simp [results, Try.results4, go_sem, hz, rl]) rfl (ret_profile_bool HR.out (fresh_nilP _ _) ((h2.2.gro E1.gro (fun b hb => by simp at hb; omega)).trans (by (repeat (first | with_reducible exact Gro.refl _ | with_reducible exact Gro.refl_drew _ _ _ | with_reducible exact Gro.refl_drewN _ _ _ _ | assumption | with_reducible apply Gro.more | with_reducible apply Gro.alloc | with_reducible apply Gro.drew | with_reducible apply Gro.drewN)); done)))
                  · have hfi : (v1 : Int) < (ns.length : Int) := by omega
                    have hfi2 : ¬ (ns.length : Int) ≤ (v1 : Int) := by omega
                    obtain ⟨gn, offn, t, hAn, htk, hcn, htz⟩ := strs_at E1.names.read (k := v1) (by omega)
                    subst hAn
                    have HTK := Lib.hid htk
                    clear htk
                    obtain ⟨y0, y1, yf0, yf1, yl⟩ := box2 E1.box
                    have hwv : IntKind.i64.wrap ((v0 : Int) - 1) = (v0 : Int) - 1 := IntWalk.i64_in _ ⟨by omega, by omega⟩
                    have hxR : tNode.R w 0 [.int .i64 ((v0 : Int) - 1), .string t, .int .i64 (v2 : Int)] ⟨(v0 : Int) - 1, ⟨t, (v2 : Int)⟩⟩ := tNode_mkR (x := ⟨(v0 : Int) - 1, ⟨t, (v2 : Int)⟩⟩) ⟨by simp only; omega, by simp only; omega⟩ htz ⟨by simp only; omega, by simp only; omega⟩
                    have hgp2 : gp ∉ S2 := fun hm => by have := E1.l2 gp hm; omega
                    have hv364 : I64 (v3 : Int) := ⟨by omega, by omega⟩
                    go_upto_region 30 with fail
                    have hg4v := hlv g4 hHv.blk
                    have hg4p : g4 ≠ gp := fun hm => by have := (Array.getElem?_eq_some_iff.1 E0.box).1; omega
                    have hgnp : gn ≠ gp := fun hm => by have h1 := E1.l0 gn E1.names.blk; omega
                    have hg42 : g4 ∉ S2 := fun hm => by have := E0.nodes.lt g4 hm; omega
                    have hgn2 : gn ∉ S2 := fun hm => by have h1 := E1.l0 gn E1.names.blk; have h2 := E1.l2 gn hm; omega
                    refine region_T (fun w' => w'.cell? ⟨gp, 0, none⟩ = some (.slice A2 p.Stacks.Nodes.length c2) ∧ w'.cell? ⟨g4, o4, none⟩ = some (.int .i64 (v0 : Int)) ∧ w'.cell? ⟨g4, o4 + 1, none⟩ = some (.int .i64 (v1 : Int)) ∧ w'.cell? ⟨g4, o4 + 2, none⟩ = some (.int .i64 (v2 : Int)) ∧ w'.cell? ⟨gn, offn + v1, none⟩ = some (.string t)) 22 (by kernel_rfl) (by ((repeat' apply And.intro) <;> ((repeat (first | assumption | with_reducible refine gro_keeps ?_ _ _ | with_reducible refine alloc_keeps ?_ _ | with_reducible refine drew_keeps ?_)); done))) (fun hH => ?_)
                    refine AnyT.take (i := 0) (cs := [22]) rfl (by kernel_rfl) (by kernel_rfl) (by kernel_rfl) (by kernel_rfl) rfl (by kernel_rfl) (fun _ _ _ h => h) hH (by rfl) (by intro w hSw; (try dsimp only at hSw); go_simp; (try with_reducible rfl)) ?_
                    try simp only [Act.put, List.setIfInBounds_toArray, List.set_cons_zero, List.set_cons_succ]
                    refine AnyT.take (i := 1) (cs := [22]) rfl (by kernel_rfl) (by kernel_rfl) (by kernel_rfl) (by kernel_rfl) rfl (by kernel_rfl) (fun _ _ _ h => h) hH (by rfl) (by intro w hSw; (try dsimp only at hSw); go_simp; (try with_reducible rfl)) ?_
                    try simp only [Act.put, List.setIfInBounds_toArray, List.set_cons_zero, List.set_cons_succ]
                    refine AnyT.take (i := 2) (cs := [22]) rfl (by kernel_rfl) (by kernel_rfl) (by kernel_rfl) (by kernel_rfl) rfl (by kernel_rfl) (fun _ _ _ h => h) hH (by rfl) (by intro w hSw; (try dsimp only at hSw); go_simp; (try with_reducible rfl)) ?_
                    try simp only [Act.put, List.setIfInBounds_toArray, List.set_cons_zero, List.set_cons_succ]
                    refine AnyT.take (i := 3) (cs := [22]) rfl (by kernel_rfl) (by kernel_rfl) (by kernel_rfl) (by kernel_rfl) rfl (by kernel_rfl) (fun _ _ _ h => h) hH (by rfl) (by intro w hSw; (try dsimp only at hSw); go_simp; (try with_reducible rfl)) ?_
                    try simp only [Act.put, List.setIfInBounds_toArray, List.set_cons_zero, List.set_cons_succ]
                    refine AnyT.take (i := 4) (cs := [22]) rfl (by kernel_rfl) (by kernel_rfl) (by kernel_rfl) (by kernel_rfl) rfl (by kernel_rfl) (fun _ _ _ h => h) hH (by rfl) (by intro w hSw; (try dsimp only at hSw); go_simp; (try with_reducible rfl)) ?_
                    try simp only [Act.put, List.setIfInBounds_toArray, List.set_cons_zero, List.set_cons_succ]
                    refine AnyT.take (i := 5) (cs := [22]) rfl (by kernel_rfl) (by kernel_rfl) (by kernel_rfl) (by kernel_rfl) rfl (by kernel_rfl) (fun _ _ _ h => h) hH (by rfl) (by intro w hSw; (try dsimp only at hSw); go_simp; (try with_reducible rfl)) ?_
                    try simp only [Act.put, List.setIfInBounds_toArray, List.set_cons_zero, List.set_cons_succ]
                    refine AnyT.take (i := 6) (cs := [22]) rfl (by kernel_rfl) (by kernel_rfl) (by kernel_rfl) (by kernel_rfl) rfl (by kernel_rfl) (fun _ _ _ h => h) hH (by rfl) (by intro w hSw; (try dsimp only at hSw); go_simp; (try with_reducible rfl)) ?_
                    try simp only [Act.put, List.setIfInBounds_toArray, List.set_cons_zero, List.set_cons_succ]
                    refine AnyT.take (i := 7) (cs := [22]) rfl (by kernel_rfl) (by kernel_rfl) (by kernel_rfl) (by kernel_rfl) rfl (by kernel_rfl) (fun _ _ _ h => h) hH (by rfl) (by intro w hSw; (try dsimp only at hSw); go_simp; (try with_reducible rfl)) ?_
                    try simp only [Act.put, List.setIfInBounds_toArray, List.set_cons_zero, List.set_cons_succ]
                    refine AnyT.take (i := 8) (cs := [22]) rfl (by kernel_rfl) (by kernel_rfl) (by kernel_rfl) (by kernel_rfl) rfl (by kernel_rfl) (fun _ _ _ h => h) hH (by rfl) (by intro w hSw; (try dsimp only at hSw); go_simp; (try with_reducible rfl)) ?_
                    try simp only [Act.put, List.setIfInBounds_toArray, List.set_cons_zero, List.set_cons_succ]
                    refine AnyT.take (i := 9) (cs := [22]) rfl (by kernel_rfl) (by kernel_rfl) (by kernel_rfl) (by kernel_rfl) rfl (by kernel_rfl) (fun _ _ _ h => h) hH (by rfl) (by intro w hSw; (try dsimp only at hSw); go_simp; (try with_reducible rfl)) ?_
                    try simp only [Act.put, List.setIfInBounds_toArray, List.set_cons_zero, List.set_cons_succ]
                    refine AnyT.take (i := 10) (cs := [22]) rfl (by kernel_rfl) (by kernel_rfl) (by kernel_rfl) (by kernel_rfl) rfl (by kernel_rfl) (fun _ _ _ h => h) hH (by rfl) (by intro w hSw; (try dsimp only at hSw); go_simp; (try with_reducible rfl)) ?_
                    try simp only [Act.put, List.setIfInBounds_toArray, List.set_cons_zero, List.set_cons_succ]
                    refine AnyT.take (i := 11) (cs := [22]) rfl (by kernel_rfl) (by kernel_rfl) (by kernel_rfl) (by kernel_rfl) rfl (by kernel_rfl) (fun _ _ _ h => h) hH (by rfl) (by intro w hSw; (try dsimp only at hSw); go_simp; (try with_reducible rfl)) ?_
                    try simp only [Act.put, List.setIfInBounds_toArray, List.set_cons_zero, List.set_cons_succ]
                    refine AnyT.take (i := 12) (cs := [22]) rfl (by kernel_rfl) (by kernel_rfl) (by kernel_rfl) (by kernel_rfl) rfl (by kernel_rfl) (fun _ _ _ h => h) hH (by rfl) (by intro w hSw; (try dsimp only at hSw); go_simp; (try with_reducible rfl)) ?_
                    try simp only [Act.put, List.setIfInBounds_toArray, List.set_cons_zero, List.set_cons_succ]
                    refine AnyT.take (i := 13) (cs := [22]) rfl (by kernel_rfl) (by kernel_rfl) (by kernel_rfl) (by kernel_rfl) rfl (by kernel_rfl) (fun _ _ _ h => h) hH (by rfl) (by intro w hSw; (try dsimp only at hSw); go_simp; (try with_reducible rfl)) ?_
                    try simp only [Act.put, List.setIfInBounds_toArray, List.set_cons_zero, List.set_cons_succ]
                    refine AnyT.take (i := 14) (cs := [22]) rfl (by kernel_rfl) (by kernel_rfl) (by kernel_rfl) (by kernel_rfl) rfl (by kernel_rfl) (fun _ _ _ h => h) hH (by rfl) (by intro w hSw; (try dsimp only at hSw); go_simp; (try with_reducible rfl)) ?_
                    try simp only [Act.put, List.setIfInBounds_toArray, List.set_cons_zero, List.set_cons_succ]
                    refine AnyT.take (i := 15) (cs := [22]) rfl (by kernel_rfl) (by kernel_rfl) (by kernel_rfl) (by kernel_rfl) rfl (by kernel_rfl) (fun _ _ _ h => h) hH (by rfl) (by intro w hSw; (try dsimp only at hSw); go_simp; (try with_reducible rfl)) ?_
                    try simp only [Act.put, List.setIfInBounds_toArray, List.set_cons_zero, List.set_cons_succ]
                    refine AnyT.take (i := 16) (cs := [22]) rfl (by kernel_rfl) (by kernel_rfl) (by kernel_rfl) (by kernel_rfl) rfl (by kernel_rfl) (fun _ _ _ h => h) hH (by rfl) (by intro w hSw; (try dsimp only at hSw); go_simp; (try with_reducible rfl)) ?_
                    try simp only [Act.put, List.setIfInBounds_toArray, List.set_cons_zero, List.set_cons_succ]
                    refine AnyT.take (i := 17) (cs := [22]) rfl (by kernel_rfl) (by kernel_rfl) (by kernel_rfl) (by kernel_rfl) rfl (by kernel_rfl) (fun _ _ _ h => h) hH (by rfl) (by intro w hSw; (try dsimp only at hSw); go_simp; (try with_reducible rfl)) ?_
                    try simp only [Act.put, List.setIfInBounds_toArray, List.set_cons_zero, List.set_cons_succ]
                    refine AnyT.one (i := 18) (by kernel_rfl) rfl (fun K hK => ?_)
                    go_simp
                    refine hK.out _ _ (by ((repeat' apply And.intro) <;> ((repeat (first | assumption | with_reducible refine gro_keeps ?_ _ _ | with_reducible refine alloc_keeps ?_ _ | with_reducible refine drew_keeps ?_)); done))) (fun hH18 => ?_)
                    clear hK hH
                    try simp only [Act.put, List.setIfInBounds_toArray, List.set_cons_zero, List.set_cons_succ]
                    refine AnyT.one (i := 19) (by kernel_rfl) rfl (fun K hK => ?_)
                    (refine step_append_hasf (L := p.Stacks.Nodes.length + 1) (y := (⟨(v0 : Int) - 1, ⟨t, (v2 : Int)⟩⟩ : DNode)) rfl (.tmp 108) (.tmp 124) elNode flatNode (S := S2) (E1.nodes.gro (by (repeat (first | with_reducible exact Gro.refl _ | with_reducible exact Gro.refl_drew _ _ _ | with_reducible exact Gro.refl_drewN _ _ _ _ | assumption | with_reducible apply Gro.more | with_reducible apply Gro.alloc | with_reducible apply Gro.drew | with_reducible apply Gro.drewN)); done)) (ec := [.int .i64 ((v0 : Int) - 1), .string t, .int .i64 (v2 : Int)]) (W1 := w) (B := 0) hxR rfl rfl rfl (by intro j u hu; simpa [go_sem] using hu) rfl (by omega) (by omega) ?_; intro A7 c7 W7 S7 hon hH7 hS7; obtain ⟨p0, p1, pf0, pf1, pl⟩ := box2 (E1.after1 (by (repeat (first | with_reducible exact Gro.refl _ | with_reducible exact Gro.refl_drew _ _ _ | with_reducible exact Gro.refl_drewN _ _ _ _ | assumption | with_reducible apply Gro.more | with_reducible apply Gro.alloc | with_reducible apply Gro.drew | with_reducible apply Gro.drewN)); done) hon); have q0 := cell_thru hc0' (by (repeat (first | with_reducible exact Gro.refl _ | with_reducible exact Gro.refl_drew _ _ _ | with_reducible exact Gro.refl_drewN _ _ _ _ | assumption | with_reducible apply Gro.more | with_reducible apply Gro.alloc | with_reducible apply Gro.drew | with_reducible apply Gro.drewN)); done) hon hg42; have q1 := cell_thru hc1' (by (repeat (first | with_reducible exact Gro.refl _ | with_reducible exact Gro.refl_drew _ _ _ | with_reducible exact Gro.refl_drewN _ _ _ _ | assumption | with_reducible apply Gro.more | with_reducible apply Gro.alloc | with_reducible apply Gro.drew | with_reducible apply Gro.drewN)); done) hon hg42; have q2 := cell_thru hc2' (by (repeat (first | with_reducible exact Gro.refl _ | with_reducible exact Gro.refl_drew _ _ _ | with_reducible exact Gro.refl_drewN _ _ _ _ | assumption | with_reducible apply Gro.more | with_reducible apply Gro.alloc | with_reducible apply Gro.drew | with_reducible apply Gro.drewN)); done) hon hg42; have q3 := cell_thru hcn (by (repeat (first | with_reducible exact Gro.refl _ | with_reducible exact Gro.refl_drew _ _ _ | with_reducible exact Gro.refl_drewN _ _ _ _ | assumption | with_reducible apply Gro.more | with_reducible apply Gro.alloc | with_reducible apply Gro.drew | with_reducible apply Gro.drewN)); done) hon hgn2)
                    refine hK.out _ _ (by ((repeat' apply And.intro) <;> ((repeat (first | assumption | with_reducible refine gro_keeps ?_ _ _ | with_reducible refine alloc_keeps ?_ _ | with_reducible refine drew_keeps ?_)); done))) (fun hH1819 => ?_)
                    clear hK hH18
                    try simp only [Act.put, List.setIfInBounds_toArray, List.set_cons_zero, List.set_cons_succ]
                    refine AnyT.take (i := 20) (cs := [21, 22]) rfl (by kernel_rfl) (by kernel_rfl) (by kernel_rfl) (by kernel_rfl) rfl (by kernel_rfl) (fun _ _ _ h => h) hH1819 (by rfl) (by intro w hSw; (try dsimp only at hSw); go_simp; (try with_reducible rfl)) ?_
                    try simp only [Act.put, List.setIfInBounds_toArray, List.set_cons_zero, List.set_cons_succ]
                    refine AnyT.take (i := 21) (cs := [22]) rfl (by kernel_rfl) (by kernel_rfl) (by kernel_rfl) (by kernel_rfl) rfl (by kernel_rfl) (fun _ _ _ h => h) hH1819 (by rfl) (by intro w hSw; (try dsimp only at hSw); go_simp; (try with_reducible rfl)) ?_
                    try simp only [Act.put, List.setIfInBounds_toArray, List.set_cons_zero, List.set_cons_succ]
                    refine AnyT.last (by kernel_rfl) rfl (by kernel_rfl) (fun K hK => ?_)
                    go_simp
                    refine hK.out _ _ ?_
                    clear hK
                    try simp only [Act.put, List.setIfInBounds_toArray, List.set_cons_zero, List.set_cons_succ]
                    have q4 := set_keeps (gp := gp) (j := 0) (u := .slice A7 (p.Stacks.Nodes.length + 1) c7) (cell_thru hc3' (by (repeat (first | with_reducible exact Gro.refl _ | with_reducible exact Gro.refl_drew _ _ _ | with_reducible exact Gro.refl_drewN _ _ _ _ | assumption | with_reducible apply Gro.more | with_reducible apply Gro.alloc | with_reducible apply Gro.drew | with_reducible apply Gro.drewN)); done) hon hg42) hg4p
                    have E2 := E1.push1 (x := (⟨(v0 : Int) - 1, ⟨t, (v2 : Int)⟩⟩ : DNode)) (by (repeat (first | with_reducible exact Gro.refl _ | with_reducible exact Gro.refl_drew _ _ _ | with_reducible exact Gro.refl_drewN _ _ _ _ | assumption | with_reducible apply Gro.more | with_reducible apply Gro.alloc | with_reducible apply Gro.drew | with_reducible apply Gro.drewN)); done) hon hH7 hS7
                    generalize W7.setCell ⟨gp, 0, none⟩ (.slice A7 (p.Stacks.Nodes.length + 1) c7) = X at q4 E2 ⊢
                    have hg73 : g4 ∉ S3 := fun hm => by have := E0.counts.lt g4 hm; omega
                    have HN4 := Lib.hid (show rdNodes s ns (n2 - (k + 1)) (posN s at_ 4) (pushP p ⟨(v0 : Int) - 1, ⟨t, (v2 : Int)⟩⟩ (v3 : Int)) = rawP s from by rw [← hok.out, rdNodes_ok HFO.out HTK.out])
                    clear p0 p1 pf0 pf1 pl q0 q1 q2 q3 hon hH7 hS7 hc0' hc1' hc2' hc3' hcn E1 hHv hGe hall hxR hok
                    obtain ⟨y0, y1, yf0, yf1, yl⟩ := box2 E2.box
                    go_upto_region 31 with fail
                    refine region_T (fun w' => w'.cell? ⟨gp, 1, none⟩ = some (.slice A3 p.Counts.length c3) ∧ w'.cell? ⟨g4, o4 + 3, none⟩ = some (.int .i64 (v3 : Int))) 8 (by kernel_rfl) (by ((repeat' apply And.intro) <;> ((repeat (first | assumption | with_reducible refine gro_keeps ?_ _ _ | with_reducible refine alloc_keeps ?_ _ | with_reducible refine drew_keeps ?_)); done))) (fun hI => ?_)
                    refine AnyT.take (i := 0) (cs := [8]) rfl (by kernel_rfl) (by kernel_rfl) (by kernel_rfl) (by kernel_rfl) rfl (by kernel_rfl) (fun _ _ _ h => h) hI (by rfl) (by intro w hSw; (try dsimp only at hSw); go_simp; (try with_reducible rfl)) ?_
                    try simp only [Act.put, List.setIfInBounds_toArray, List.set_cons_zero, List.set_cons_succ]
                    refine AnyT.take (i := 1) (cs := [8]) rfl (by kernel_rfl) (by kernel_rfl) (by kernel_rfl) (by kernel_rfl) rfl (by kernel_rfl) (fun _ _ _ h => h) hI (by rfl) (by intro w hSw; (try dsimp only at hSw); go_simp; (try with_reducible rfl)) ?_
                    try simp only [Act.put, List.setIfInBounds_toArray, List.set_cons_zero, List.set_cons_succ]
                    refine AnyT.take (i := 2) (cs := [8]) rfl (by kernel_rfl) (by kernel_rfl) (by kernel_rfl) (by kernel_rfl) rfl (by kernel_rfl) (fun _ _ _ h => h) hI (by rfl) (by intro w hSw; (try dsimp only at hSw); go_simp; (try with_reducible rfl)) ?_
                    try simp only [Act.put, List.setIfInBounds_toArray, List.set_cons_zero, List.set_cons_succ]
                    refine AnyT.take (i := 3) (cs := [8]) rfl (by kernel_rfl) (by kernel_rfl) (by kernel_rfl) (by kernel_rfl) rfl (by kernel_rfl) (fun _ _ _ h => h) hI (by rfl) (by intro w hSw; (try dsimp only at hSw); go_simp; (try with_reducible rfl)) ?_
                    try simp only [Act.put, List.setIfInBounds_toArray, List.set_cons_zero, List.set_cons_succ]
                    refine AnyT.take (i := 4) (cs := [8]) rfl (by kernel_rfl) (by kernel_rfl) (by kernel_rfl) (by kernel_rfl) rfl (by kernel_rfl) (fun _ _ _ h => h) hI (by rfl) (by intro w hSw; (try dsimp only at hSw); go_simp; (try with_reducible rfl)) ?_
                    try simp only [Act.put, List.setIfInBounds_toArray, List.set_cons_zero, List.set_cons_succ]
                    refine AnyT.one (i := 5) (by kernel_rfl) rfl (fun K hK => ?_)
                    go_simp
                    refine hK.out _ _ (by ((repeat' apply And.intro) <;> ((repeat (first | assumption | with_reducible refine gro_keeps ?_ _ _ | with_reducible refine alloc_keeps ?_ _ | with_reducible refine drew_keeps ?_)); done))) (fun hI5 => ?_)
                    clear hK hI
                    try simp only [Act.put, List.setIfInBounds_toArray, List.set_cons_zero, List.set_cons_succ]
                    refine AnyT.one (i := 6) (by kernel_rfl) rfl (fun K hK => ?_)
                    (refine step_append_hasf (L := p.Counts.length + 1) (y := (v3 : Int)) rfl (.tmp 129) (.tmp 133) elInt flat_int (S := S3) (E2.counts.gro (by (repeat (first | with_reducible exact Gro.refl _ | with_reducible exact Gro.refl_drew _ _ _ | with_reducible exact Gro.refl_drewN _ _ _ _ | assumption | with_reducible apply Gro.more | with_reducible apply Gro.alloc | with_reducible apply Gro.drew | with_reducible apply Gro.drewN)); done)) (ec := [.int .i64 (v3 : Int)]) (W1 := w) (B := 0) ⟨rfl, hv364.1, hv364.2⟩ rfl rfl rfl (by intro j u hu; simpa [go_sem] using hu) rfl (by omega) (by omega) ?_; intro A8 c8 W8 S8 hon8 hH8 hS8; obtain ⟨p0, p1, pf0, pf1, pl⟩ := box2 (E2.after2 (by (repeat (first | with_reducible exact Gro.refl _ | with_reducible exact Gro.refl_drew _ _ _ | with_reducible exact Gro.refl_drewN _ _ _ _ | assumption | with_reducible apply Gro.more | with_reducible apply Gro.alloc | with_reducible apply Gro.drew | with_reducible apply Gro.drewN)); done) hon8); have q0 := cell_thru q4 (by (repeat (first | with_reducible exact Gro.refl _ | with_reducible exact Gro.refl_drew _ _ _ | with_reducible exact Gro.refl_drewN _ _ _ _ | assumption | with_reducible apply Gro.more | with_reducible apply Gro.alloc | with_reducible apply Gro.drew | with_reducible apply Gro.drewN)); done) hon8 hg73)
                    refine hK.out _ _ (by ((repeat' apply And.intro) <;> ((repeat (first | assumption | with_reducible refine gro_keeps ?_ _ _ | with_reducible refine alloc_keeps ?_ _ | with_reducible refine drew_keeps ?_)); done))) (fun hI56 => ?_)
                    clear hK hI5
                    try simp only [Act.put, List.setIfInBounds_toArray, List.set_cons_zero, List.set_cons_succ]
                    refine AnyT.take (i := 7) (cs := [8]) rfl (by kernel_rfl) (by kernel_rfl) (by kernel_rfl) (by kernel_rfl) rfl (by kernel_rfl) (fun _ _ _ h => h) hI56 (by rfl) (by intro w hSw; (try dsimp only at hSw); go_simp; (try with_reducible rfl)) ?_
                    try simp only [Act.put, List.setIfInBounds_toArray, List.set_cons_zero, List.set_cons_succ]
                    refine AnyT.last (by kernel_rfl) rfl (by kernel_rfl) (fun K hK => ?_)
                    go_simp
                    refine hK.out _ _ ?_
                    clear hK
                    try simp only [Act.put, List.setIfInBounds_toArray, List.set_cons_zero, List.set_cons_succ]
                    have E3 := E2.push2 (x := (v3 : Int)) (by (repeat (first | with_reducible exact Gro.refl _ | with_reducible exact Gro.refl_drew _ _ _ | with_reducible exact Gro.refl_drewN _ _ _ _ | assumption | with_reducible apply Gro.more | with_reducible apply Gro.alloc | with_reducible apply Gro.drew | with_reducible apply Gro.drewN)); done) hon8 hH8 hS8
                    generalize W8.setCell ⟨gp, 1, none⟩ (.slice A8 (p.Counts.length + 1) c8) = X3 at E3 ⊢
                    clear p0 p1 pf0 pf1 pl q0 q4 hon8 hH8 hS8 E2 y0 y1 yf0 yf1 yl
                    go_wp2_with (fail)
                    go_roundw
                    case measure => (simp [intOf]; try omega)
                    case rel => exact ⟨k + 1, posN s at_ 4, pushP p ⟨(v0 : Int) - 1, ⟨t, (v2 : Int)⟩⟩ (v3 : Int), A7, c7, A8, c8, S7, S8, rfl, by go_num, by omega, hp4, by simp only [pushP, List.length_append, List.length_singleton]; omega, by simp only [pushP, List.length_append, List.length_singleton]; omega, HN4, E3⟩
            · obtain rfl : k = n2 := by omega
              obtain ⟨r0, r1, rf0, rf1, rl⟩ := box2 E0.ret
              obtain ⟨x0, x1, xf0, xf1, xl⟩ := box2 E0.rd
              obtain ⟨y0, y1, yf0, yf1, yl⟩ := box2 E0.box
              have hlt3 := E0.lt
              have hwg := E0.wg
              have hraw : rawP s = some p := by rw [← hok.out, Nat.sub_self]; rfl
              by_cases he : encP p = s
              · have HR := Lib.hid (decP_eq hraw he)
                have HE := Lib.hid he
                have heb : (s.toList != s.toList) = false := by rw [bne, str_eqb, decide_eq_true rfl]; rfl
                clear he hraw
                go_wp2_with (go_at_call 11; (with_reducible refine (encP_s (p := p) (Ty.up _ E0.nodes.read (by repeat (first | with_reducible exact Gro.refl _ | with_reducible exact Gro.refl_drew _ _ _ | with_reducible exact Gro.refl_drewN _ _ _ _ | assumption | with_reducible apply Gro.more | with_reducible apply Gro.alloc | with_reducible apply Gro.drew | with_reducible apply Gro.drewN))) (Ty.up _ E0.counts.read (by repeat (first | with_reducible exact Gro.refl _ | with_reducible exact Gro.refl_drew _ _ _ | with_reducible exact Gro.refl_drewN _ _ _ _ | assumption | with_reducible apply Gro.more | with_reducible apply Gro.alloc | with_reducible apply Gro.drew | with_reducible apply Gro.drewN))) (by omega)).mono ?_); rw [HE.out]; rintro e w9 ⟨rfl, os9, d9, rfl⟩)
                have h2 := set2 E0.ret (.slice A2 p.Stacks.Nodes.length c2) (.slice A3 p.Counts.length c3)
                have hz := box2 h2.1
                have kn := (E0.nodes.keep h2.2 (fun b hb hm => by have := E0.l2 b hb; simp at hm; omega)).gro (Gro.of _ os9 d9)
                have kc := (E0.counts.keep h2.2 (fun b hb hm => by have := E0.l3 b hb; simp at hm; omega)).gro (Gro.of _ os9 d9)
                refine bodyPost_ret (v := .tuple #[.agg #[.slice A2 p.Stacks.Nodes.length c2, .slice A3 p.Counts.length c3], .bool true]) (by simp [results, Try.results4, go_sem, hz, rl]) rfl (ret_profile_bool HR.out ?_ ((h2.2.gro E0.gro (fun b hb => by simp at hb; omega)).trans (by (repeat (first | with_reducible exact Gro.refl _ | with_reducible exact Gro.refl_drew _ _ _ | with_reducible exact Gro.refl_drewN _ _ _ _ | assumption | with_reducible apply Gro.more | with_reducible apply Gro.alloc | with_reducible apply Gro.drew | with_reducible apply Gro.drewN)); done)))
                refine ⟨S2 ++ S3, tProfile_mkO A2 c2 S2 A3 c3 S3 kn.1 kc.1, List.nodup_append.2 ⟨kn.2, kc.2, fun a ha b hb he => E0.d23 a ha (he ▸ hb)⟩, fun b hb => ?_⟩
                rcases List.mem_append.1 hb with h | h
                · have := E0.l2 b h; omega
                · have := E0.l3 b h; omega
              · have HR := Lib.hid (decP_ne hraw he)
                obtain ⟨E, hE⟩ : ∃ E, encP p = E := ⟨_, rfl⟩
                have HE := Lib.hid hE
                rw [hE] at he
                have heb : (E.toList == s.toList) = false := by rw [str_eqb, decide_eq_false he]
                clear he hraw hE
                go_wp2_with (go_at_call 11; (with_reducible refine (encP_s (p := p) (Ty.up _ E0.nodes.read (by repeat (first | with_reducible exact Gro.refl _ | with_reducible exact Gro.refl_drew _ _ _ | with_reducible exact Gro.refl_drewN _ _ _ _ | assumption | with_reducible apply Gro.more | with_reducible apply Gro.alloc | with_reducible apply Gro.drew | with_reducible apply Gro.drewN))) (Ty.up _ E0.counts.read (by repeat (first | with_reducible exact Gro.refl _ | with_reducible exact Gro.refl_drew _ _ _ | with_reducible exact Gro.refl_drewN _ _ _ _ | assumption | with_reducible apply Gro.more | with_reducible apply Gro.alloc | with_reducible apply Gro.drew | with_reducible apply Gro.drewN))) (by omega)).mono ?_); rw [HE.out]; rintro e w9 ⟨rfl, os9, d9, rfl⟩)
                have h2 := set2 E0.ret (.slice none 0 0) (.slice none 0 0)
                have hz := box2 h2.1
                exact bodyPost_ret (v := .tuple #[.agg #[.slice none 0 0, .slice none 0 0], .bool false]) (by simp [results, Try.results4, go_sem, hz, rl]) rfl (ret_profile_bool HR.out (fresh_nilP _ _) ((h2.2.gro E0.gro (fun b hb => by simp at hb; omega)).trans (by (repeat (first | with_reducible exact Gro.refl _ | with_reducible exact Gro.refl_drew _ _ _ | with_reducible exact Gro.refl_drewN _ _ _ _ | assumption | with_reducible apply Gro.more | with_reducible apply Gro.alloc | with_reducible apply Gro.drew | with_reducible apply Gro.drewN)); done)))
      · simp only [Bool.and_eq_true, decide_eq_true_eq] at hgo
        obtain ⟨hj, rfl⟩ := hgo
        obtain ⟨t, z, ok, hu⟩ : ∃ t z ok, unpT s (at_ : Int) = (t, z, ok) := ⟨_, _, _, rfl⟩
        have htz := unpT_sz s (at_ : Int) hs0
        rw [hu] at htz
        simp only at htz
        have HU := Lib.hid hu
        have hl := hnl2 rfl
        have hok' := hok.out rfl
        have hza : at_ + z ≤ s.size ∧ (ok = true → 1 ≤ z) := by
          cases ok with
          | true => have := unpT_bd hu; exact ⟨this.2.1, fun _ => this.1⟩
          | false => rw [unpT_zero hu]; exact ⟨hat, fun h => by cases h⟩
        have hnk : n0 - k = (n0 - (k + 1)) + 1 := by omega
        have HN := Lib.hid (show ok = true → rdNames s (n0 - (k + 1)) (at_ + z) (ns ++ [t]) = rdNames s n0 z0 [] from fun h => by subst h; rw [← hok'.2, hnk, rdNames_ok hu])
        have HB := Lib.hid (show ok = false → rawP s = none from fun h => by
          subst h
          have h1 := HD0.out
          rw [hok'.1] at h1
          exact rawP_1 h1 (by rw [← hok'.2, hnk, rdNames_bad hu]))
        have HOK0 := Lib.hid hok'.1
        have hw1 : IntKind.i64.wrap ((at_ : Int) + (z : Int)) = (at_ : Int) + (z : Int) := IntWalk.i64_in _ ⟨by omega, by omega⟩
        clear hu hok hok' hnl2 hnk hbad
        go_wp2_with (first
          | (go_at_call 10; (with_reducible refine (unpT_s s (at_ : Int) _ hs2 hat64).mono ?_); rw [HU.out]; rintro e W3 ⟨rfl, os3, d3, rfl⟩)
          | (refine wpList_append_hasf (L := ns.length + 1) (y := t) rfl (.tmp 47) (.tmp 49) el_str flat_str (S := S0) (hH.gro (by (repeat (first | with_reducible exact Gro.refl _ | with_reducible exact Gro.refl_drew _ _ _ | with_reducible exact Gro.refl_drewN _ _ _ _ | assumption | with_reducible apply Gro.more | with_reducible apply Gro.alloc | with_reducible apply Gro.drew | with_reducible apply Gro.drewN)); done)) (ec := [.string t]) (W1 := w) (B := 0) ⟨rfl, by omega⟩ rfl rfl rfl (by intro j u hu; simpa [go_sem] using hu) rfl (by omega) (by omega) ?_; intro A7 c7 W7 S7 hon hH7 hS7))
        go_roundw
        case measure => (simp [intOf]; try omega)
        case rel =>
          have hG7 : Gro w W7 := hon.gro (hG.trans (by (repeat (first | with_reducible exact Gro.refl _ | with_reducible exact Gro.refl_drew _ _ _ | with_reducible exact Gro.refl_drewN _ _ _ _ | assumption | with_reducible apply Gro.more | with_reducible apply Gro.alloc | with_reducible apply Gro.drew | with_reducible apply Gro.drewN)); done)) (fun b hb => by have := hl0.out b hb; omega)
          have hr7 := (hon.block g (by simp; omega) (fun hm => by have := hl0.out g hm; omega)).trans (grow_blk hret.out (by (repeat (first | with_reducible exact Gro.refl _ | with_reducible exact Gro.refl_drew _ _ _ | with_reducible exact Gro.refl_drewN _ _ _ _ | assumption | with_reducible apply Gro.more | with_reducible apply Gro.alloc | with_reducible apply Gro.drew | with_reducible apply Gro.drewN)); done))
          have hn7 := (hon.block (g + 1) (by simp; omega) (fun hm => by have := hl0.out _ hm; omega)).trans (grow_blk hnon.out (by (repeat (first | with_reducible exact Gro.refl _ | with_reducible exact Gro.refl_drew _ _ _ | with_reducible exact Gro.refl_drewN _ _ _ _ | assumption | with_reducible apply Gro.more | with_reducible apply Gro.alloc | with_reducible apply Gro.drew | with_reducible apply Gro.drewN)); done))
          refine ⟨k + 1, at_ + z, ok, ns ++ [t], A7, c7, S7, by go_num, rfl, by rw [List.length_append]; rfl, by go_num, by omega, hza.1, by rw [List.length_append, List.length_singleton]; omega, fun h => ?_, Lib.hid (fun h => ⟨HOK0.out, HN.out h⟩), Lib.hid (fun h => HB.out h), hG7, Lib.hid hr7, Lib.hid hn7, by rw [List.length_append]; exact hH7, Lib.hid (fun b hb => ?_)⟩
          · have := hza.2 h
            rw [List.length_append, List.length_singleton]
            omega
          · rcases hS7 b hb with h | h
            · exact hl0.out b h
            · simp at h; omega
end Go.Proofs.Ytcomafmiclkmhaa
