/-
  The law FnExactRunProcess answers true for every input: the program and the reference compute the same; the arguments stay; the result is of its own memory. No condition.
-/
import Derived.Test.YtbhobjepjaeffaaAllELawRunProcess
import Derived.Test.YtbhobjepjaeffaaRows
import Derived.ShutString
set_option linter.unusedVariables false
set_option linter.unusedSimpArgs false
namespace Go.Proofs.Ytbhobjepjaeffaa
open Go.RowKit
theorem grow_frz {a b : World} (hg : Gro a b) {g i : Nat} (hl : g < a.heap.size) : b.frozen? ⟨g, i, none⟩ = a.frozen? ⟨g, i, none⟩ := by
  obtain ⟨os, d, rfl⟩ := hg
  exact gro_frozen os d g i hl
theorem fresh_lo {α : Type} {T : Ty α} {w w1 W : World} {cs : List Value} {x : α} (h : Fresh T w1 W cs x) (hl : w.heap.size ≤ w1.heap.size) : Fresh T w W cs x := by
  obtain ⟨S, h1, h2, h3⟩ := h
  exact ⟨S, h1, h2, fun b hb => by have := h3 b hb; omega⟩
set_option maxRecDepth 100000 in
set_option maxHeartbeats 3000000 in
theorem turn_i {B : List (Nat × Obj)} {Y W : World} {gp N : Nat} {x : DProcess} {A0 A1 A2 A3 : Option Addr} {c0 c1 c2 c3 : Nat} {S0 S3 : List Nat} (h : PSt B Y W gp x A0 c0 A1 c1 A2 c2 A3 c3 S0 S3) (hv : PInv N x) (hN : N ≤ 1099511620000) :
    Calls Try.prog 79 #[.pointer (some ⟨gp, 0, none⟩)] W fun r W' => r = .returned (.int .i64 (turnP x).2) ∧ PInv (N + 1) (turnP x).1 ∧ ∃ S3', PSt B Y W' gp (turnP x).1 A0 c0 A1 c1 A2 c2 A3 c3 S0 S3' := by
  have HIMG := Lib.hid hv.img
  have hn1 := hv.n1
  have hn3 := hv.n3
  have ht1 := hv.t1
  have hl1 := hv.l1
  have hl2 := hv.l2
  have hs1 := hv.s1
  obtain ⟨T, hT⟩ := Int.eq_ofNat_of_zero_le hv.t0
  have HTU := Lib.hid hT
  have hTn : T < x.Threads.length := by omega
  obtain ⟨p0, p1, p2, p3, p4, p5, p6, pf, pl⟩ := row7 h.box
  go_enter Try.func79, Try.ntmps79
  go_wp2
  go_loopw [4] (fun a wr => ∃ k : Nat, a = .int .i64 k ∧ k ≤ x.Threads.length ∧ Hid (Gro W wr) ∧ Hid (turnGo x (x.Threads.length - k) k = turnP x)) (fun a _ => x.Threads.length - (intOf a).toNat)
  case atStart => exact ⟨0, rfl, Nat.zero_le _, Lib.hid (Gro.refl _), Lib.hid rfl⟩
  case round =>
    obtain ⟨k, rfl, hkn, hG, hE⟩ := hrel
    have HP := Lib.hid (h.gro' hG.out)
    clear p0 p1 p2 p3 p4 p5 p6 pf pl
    obtain ⟨p0, p1, p2, p3, p4, p5, p6, pf, pl⟩ := row7 HP.out.box
    by_cases hlt : k < x.Threads.length
    · obtain ⟨t, ht⟩ : ∃ t, (T + k) % x.Threads.length = t := ⟨_, rfl⟩
      have htl : t < x.Threads.length := by rw [← ht]; exact Nat.mod_lt _ (by omega)
      have hmod1 : ((T : Int) + (k : Int)).tmod (x.Threads.length : Int) = (t : Int) := by rw [← ht]; rfl
      have hmod2 : ((T : Int) + (k : Int)) % (x.Threads.length : Int) = (t : Int) := by rw [← ht]; rfl
      obtain ⟨m, hmt⟩ : ∃ m, x.Threads[t]? = some m := ⟨_, List.getElem?_eq_getElem htl⟩
      have hmk := hv.ms m (List.mem_of_getElem? hmt)
      have hmt' : x.Threads[(x.Turn.toNat + k) % x.Threads.length]? = some m := by rw [hT, Int.toNat_natCast, ht]; exact hmt
      have hfk : x.Threads.length - k = (x.Threads.length - (k + 1)) + 1 := by omega
      obtain ⟨gt, A4, c4, A5, c5, hA3, hgl, hgtp, hfr, ⟨q0, q1, q2, q3, q4, q5, q6⟩, _, _, _⟩ := HP.out.thread hmt
      have hki : (k : Int) < (x.Threads.length : Int) := by omega
      have hti : (t : Int) < (x.Threads.length : Int) := by omega
      have hn0 : ¬ ((x.Threads.length : Int) = 0) := by omega
      rw [hA3] at p3
      by_cases hs : m.State = 0
      · have hE2 := hE.out
        rw [hfk, turnGo_hit hmt' hs, hT, Int.toNat_natCast, ht] at hE2
        have HRES := Lib.hid hE2.symm
        rw [← hA3] at p3
        clear hE2 hmt' hfk
        by_cases hk0 : 0 < k
        · have hA3' := hA3
          rw [hA3] at p3
          have HA3 := Lib.hid hA3
          clear hA3 hA3'
          have hkp : (0 : Int) < (k : Int) := by omega
          have htc : t = T + k ∨ t + x.Threads.length = T + k := by
            rw [← ht]
            rcases Nat.lt_or_ge (T + k) x.Threads.length with h9 | h9
            · exact .inl (Nat.mod_eq_of_lt h9)
            · rw [Nat.mod_eq_sub_mod h9, Nat.mod_eq_of_lt (by omega)]
              omega
          have hne : ¬ ((t : Int) = x.Turn) := by omega
          clear htc
          have hl0 : (if decide (0 < k) = true then x.Slice else x.Left) - 1 = x.Slice - 1 := by rw [if_pos (by simpa using hk0)]
          go_upto_region 9 with (fail)
          have hP0 := HP.out.num (i := 5) (v := .int .i64 x.Slice) (t := x.Turn) (l := x.Slice) (fun _ _ _ _ _ => rfl)
          generalize wr.setCell ⟨gp, 5, none⟩ (.int .i64 x.Slice) = wa at hP0 ⊢
          have hbx : wa.heap[gp]? = some (.cells #[.slice A0 x.Space.Images.length c0, .slice A1 x.Space.Bases.length c1, .slice A2 x.Space.Entries.length c2, .slice A3 x.Threads.length c3, .int .i64 x.Turn, .int .i64 x.Slice, .int .i64 x.Slice] 36 (0, 0)) := hP0.box
          clear p0 p1 p2 p3 p4 p5 p6 pf pl
          obtain ⟨p0, p1, p2, p3, p4, p5, p6, pf, pl⟩ := row7 hbx
          clear hbx
          go_upto_region 10 with (fail)
          have hP1 := hP0.num (i := 4) (v := .int .i64 (t : Int)) (t := (t : Int)) (l := x.Slice) (fun _ _ _ _ _ => rfl)
          generalize wa.setCell ⟨gp, 4, none⟩ (.int .i64 (t : Int)) = w1 at hP1 ⊢
          obtain ⟨L0, hL0⟩ : ∃ L0, x.Slice = L0 := ⟨_, rfl⟩
          have hL01 : 1 ≤ L0 := by omega
          have hL02 : L0 ≤ 1000 := by omega
          have hl0 : (if decide (0 < k) = true then x.Slice else x.Left) - 1 = L0 - 1 := by rw [hl0, hL0]
          have hP1 : PSt B Y w1 gp { x with Turn := (t : Int), Left := L0 } A0 c0 A1 c1 A2 c2 A3 c3 S0 S3 := by rw [← hL0]; exact hP1
          clear hL0 hne hP0 p0 p1 p2 p3 p4 p5 p6 pf pl
          clear HP hG hE q0 q1 q2 q3 q4 q5 q6 hgl hgtp hfr HTU hkp hmod1 hmod2 hk0 ht hkn hlt
          have HS0 := Lib.hid hs
          have HMK := Lib.hid hmk
          have hbx : w1.heap[gp]? = some (.cells #[.slice A0 x.Space.Images.length c0, .slice A1 x.Space.Bases.length c1, .slice A2 x.Space.Entries.length c2, .slice A3 x.Threads.length c3, .int .i64 (t : Int), .int .i64 L0, .int .i64 x.Slice] 36 (0, 0)) := hP1.box
          have hdr : Gro w1 w1.drew := (Gro.refl w1).drew
          obtain ⟨f0, f1, f2⟩ := leavesSpace hP1.sp.read
          obtain ⟨gt, A4, c4, A5, c5, rfl, hgl, hgtp, hfr, ⟨q0, q1, q2, q3, q4, q5, q6⟩, o3, o4, hput⟩ := hP1.thread hmt
          have HPUT := Lib.hid hput
          clear hs hmk hput hP1
          obtain ⟨p0, p1, p2, p3, p4, p5, p6, pf, pl⟩ := row7 hbx
          clear hbx
          refine region_T (fun w' => w'.cell? ⟨gp, 0, none⟩ = some (.slice A0 x.Space.Images.length c0) ∧ w'.cell? ⟨gp, 1, none⟩ = some (.slice A1 x.Space.Bases.length c1) ∧ w'.cell? ⟨gp, 2, none⟩ = some (.slice A2 x.Space.Entries.length c2) ∧ w'.cell? ⟨gp, 3, none⟩ = some (.slice (some ⟨gt, 0, none⟩) x.Threads.length c3) ∧ w'.cell? ⟨gt, t * 7, none⟩ = some (.int .i64 m.Pc) ∧ w'.cell? ⟨gt, t * 7 + 1, none⟩ = some (.int .i64 m.Sp) ∧ w'.cell? ⟨gt, t * 7 + 2, none⟩ = some (.int .i64 m.Fp) ∧ w'.cell? ⟨gt, t * 7 + 3, none⟩ = some (.slice A4 m.Stack.length c4) ∧ w'.cell? ⟨gt, t * 7 + 4, none⟩ = some (.slice A5 m.Out.length c5) ∧ w'.cell? ⟨gt, t * 7 + 5, none⟩ = some (.int .i64 m.State) ∧ w'.cell? ⟨gt, t * 7 + 6, none⟩ = some (.int .i64 m.Value)) 18 (by kernel_rfl) (And.intro (drew_keeps p0) (And.intro (drew_keeps p1) (And.intro (drew_keeps p2) (And.intro (drew_keeps p3) (And.intro (drew_keeps q0) (And.intro (drew_keeps q1) (And.intro (drew_keeps q2) (And.intro (drew_keeps q3) (And.intro (drew_keeps q4) (And.intro (drew_keeps q5) (drew_keeps q6))))))))))) (fun hH => ?_)
          have f0 := Ty.up _ f0 hdr
          have f1 := Ty.up _ f1 hdr
          have f2 := Ty.up _ f2 hdr
          have o3 := Ty.up _ o3 hdr
          have o4 := Ty.up _ o4 hdr
          clear p0 p1 p2 p3 q0 q1 q2 q3 q4 q5 q6
          have hsz9 : w1.heap.size ≤ w1.drew.heap.size := hdr.size
          generalize w1.drew = wx at hdr hH f0 f1 f2 o3 o4 hsz9 ⊢
          obtain ⟨p0, p1, p2, p3, q0, q1, q2, q3, q4, q5, q6⟩ := id hH
          have hfrx : ∀ j, wx.frozen? ⟨gt, j, none⟩ = false := fun j => (grow_frz hdr hgl).trans (hfr j)
          have hgx : gt < wx.heap.size := by omega
          refine AnyT.take (i := 0) (cs := [18]) rfl (by kernel_rfl) (by kernel_rfl) (by kernel_rfl) (by kernel_rfl) rfl (by kernel_rfl) (fun _ _ _ h => h) hH (by rfl) (by intro w hSw; (try dsimp only at hSw); go_simp; (try with_reducible rfl)) ?_
          try simp only [Act.put, List.setIfInBounds_toArray, List.set_cons_zero, List.set_cons_succ]
          refine AnyT.take (i := 1) (cs := [18]) rfl (by kernel_rfl) (by kernel_rfl) (by kernel_rfl) (by kernel_rfl) rfl (by kernel_rfl) (fun _ _ _ h => h) hH (by rfl) (by intro w hSw; (try dsimp only at hSw); go_simp; (try with_reducible rfl)) ?_
          try simp only [Act.put, List.setIfInBounds_toArray, List.set_cons_zero, List.set_cons_succ]
          refine AnyT.take (i := 2) (cs := [18]) rfl (by kernel_rfl) (by kernel_rfl) (by kernel_rfl) (by kernel_rfl) rfl (by kernel_rfl) (fun _ _ _ h => h) hH (by rfl) (by intro w hSw; (try dsimp only at hSw); go_simp; (try with_reducible rfl)) ?_
          try simp only [Act.put, List.setIfInBounds_toArray, List.set_cons_zero, List.set_cons_succ]
          refine AnyT.take (i := 3) (cs := [18]) rfl (by kernel_rfl) (by kernel_rfl) (by kernel_rfl) (by kernel_rfl) rfl (by kernel_rfl) (fun _ _ _ h => h) hH (by rfl) (by intro w hSw; (try dsimp only at hSw); go_simp; (try with_reducible rfl)) ?_
          try simp only [Act.put, List.setIfInBounds_toArray, List.set_cons_zero, List.set_cons_succ]
          refine AnyT.take (i := 4) (cs := [18]) rfl (by kernel_rfl) (by kernel_rfl) (by kernel_rfl) (by kernel_rfl) rfl (by kernel_rfl) (fun _ _ _ h => h) hH (by rfl) (by intro w hSw; (try dsimp only at hSw); go_simp; (try with_reducible rfl)) ?_
          try simp only [Act.put, List.setIfInBounds_toArray, List.set_cons_zero, List.set_cons_succ]
          refine AnyT.take (i := 5) (cs := [18]) rfl (by kernel_rfl) (by kernel_rfl) (by kernel_rfl) (by kernel_rfl) rfl (by kernel_rfl) (fun _ _ _ h => h) hH (by rfl) (by intro w hSw; (try dsimp only at hSw); go_simp; (try with_reducible rfl)) ?_
          try simp only [Act.put, List.setIfInBounds_toArray, List.set_cons_zero, List.set_cons_succ]
          refine AnyT.take (i := 6) (cs := [18]) rfl (by kernel_rfl) (by kernel_rfl) (by kernel_rfl) (by kernel_rfl) rfl (by kernel_rfl) (fun _ _ _ h => h) hH (by rfl) (by intro w hSw; (try dsimp only at hSw); go_simp; (try with_reducible rfl)) ?_
          try simp only [Act.put, List.setIfInBounds_toArray, List.set_cons_zero, List.set_cons_succ]
          refine AnyT.take (i := 7) (cs := [18]) rfl (by kernel_rfl) (by kernel_rfl) (by kernel_rfl) (by kernel_rfl) rfl (by kernel_rfl) (fun _ _ _ h => h) hH (by rfl) (by intro w hSw; (try dsimp only at hSw); go_simp; (try with_reducible rfl)) ?_
          try simp only [Act.put, List.setIfInBounds_toArray, List.set_cons_zero, List.set_cons_succ]
          refine AnyT.take (i := 8) (cs := [18]) rfl (by kernel_rfl) (by kernel_rfl) (by kernel_rfl) (by kernel_rfl) rfl (by kernel_rfl) (fun _ _ _ h => h) hH (by rfl) (by intro w hSw; (try dsimp only at hSw); go_simp; (try with_reducible rfl)) ?_
          try simp only [Act.put, List.setIfInBounds_toArray, List.set_cons_zero, List.set_cons_succ]
          refine AnyT.take (i := 9) (cs := [18]) rfl (by kernel_rfl) (by kernel_rfl) (by kernel_rfl) (by kernel_rfl) rfl (by kernel_rfl) (fun _ _ _ h => h) hH (by rfl) (by intro w hSw; (try dsimp only at hSw); go_simp; (try with_reducible rfl)) ?_
          try simp only [Act.put, List.setIfInBounds_toArray, List.set_cons_zero, List.set_cons_succ]
          refine AnyT.take (i := 10) (cs := [18]) rfl (by kernel_rfl) (by kernel_rfl) (by kernel_rfl) (by kernel_rfl) rfl (by kernel_rfl) (fun _ _ _ h => h) hH (by rfl) (by intro w hSw; (try dsimp only at hSw); go_simp; (try with_reducible rfl)) ?_
          try simp only [Act.put, List.setIfInBounds_toArray, List.set_cons_zero, List.set_cons_succ]
          refine AnyT.take (i := 11) (cs := [18]) rfl (by kernel_rfl) (by kernel_rfl) (by kernel_rfl) (by kernel_rfl) rfl (by kernel_rfl) (fun _ _ _ h => h) hH (by rfl) (by intro w hSw; (try dsimp only at hSw); go_simp; (try with_reducible rfl)) ?_
          try simp only [Act.put, List.setIfInBounds_toArray, List.set_cons_zero, List.set_cons_succ]
          refine AnyT.take (i := 12) (cs := [18]) rfl (by kernel_rfl) (by kernel_rfl) (by kernel_rfl) (by kernel_rfl) rfl (by kernel_rfl) (fun _ _ _ h => h) hH (by rfl) (by intro w hSw; (try dsimp only at hSw); go_simp; (try with_reducible rfl)) ?_
          try simp only [Act.put, List.setIfInBounds_toArray, List.set_cons_zero, List.set_cons_succ]
          refine AnyT.take (i := 13) (cs := [18]) rfl (by kernel_rfl) (by kernel_rfl) (by kernel_rfl) (by kernel_rfl) rfl (by kernel_rfl) (fun _ _ _ h => h) hH (by rfl) (by intro w hSw; (try dsimp only at hSw); go_simp; (try with_reducible rfl)) ?_
          try simp only [Act.put, List.setIfInBounds_toArray, List.set_cons_zero, List.set_cons_succ]
          refine AnyT.take (i := 14) (cs := [18]) rfl (by kernel_rfl) (by kernel_rfl) (by kernel_rfl) (by kernel_rfl) rfl (by kernel_rfl) (fun _ _ _ h => h) hH (by rfl) (by intro w hSw; (try dsimp only at hSw); go_simp; (try with_reducible rfl)) ?_
          try simp only [Act.put, List.setIfInBounds_toArray, List.set_cons_zero, List.set_cons_succ]
          refine AnyT.take (i := 15) (cs := [18]) rfl (by kernel_rfl) (by kernel_rfl) (by kernel_rfl) (by kernel_rfl) rfl (by kernel_rfl) (fun _ _ _ h => h) hH (by rfl) (by intro w hSw; (try dsimp only at hSw); go_simp; (try with_reducible rfl)) ?_
          try simp only [Act.put, List.setIfInBounds_toArray, List.set_cons_zero, List.set_cons_succ]
          refine AnyT.one (i := 16) (by kernel_rfl) rfl (fun K hK => ?_)
          go_simp
          go_at_call 109
          refine (step_i (s := x.Space) (m := m) (N := N) f0 f1 f2 o3 o4 HIMG.out.1 HIMG.out.2.1 HIMG.out.2.2 HMK.out hN HS0.out).mono ?_
          rintro e w2 ⟨B0, d0, B1, d1, rfl, hg2, hk2, hor⟩
          have hor := hor.imp (fun hF => fresh_lo hF hsz9) id
          have p0 := grow_cell hg2 p0
          have p1 := grow_cell hg2 p1
          have p2 := grow_cell hg2 p2
          have p3 := grow_cell hg2 p3
          have q0 := grow_cell hg2 q0
          have q1 := grow_cell hg2 q1
          have q2 := grow_cell hg2 q2
          have q3 := grow_cell hg2 q3
          have q4 := grow_cell hg2 q4
          have q5 := grow_cell hg2 q5
          have q6 := grow_cell hg2 q6
          have hH2 := (And.intro p0 (And.intro p1 (And.intro p2 (And.intro p3 (And.intro q0 (And.intro q1 (And.intro q2 (And.intro q3 (And.intro q4 (And.intro q5 q6))))))))))
          refine hK.out _ _ hH2 (fun hI => ?_)
          clear hK hH
          have hH := hI
          try simp only [Act.put, List.setIfInBounds_toArray, List.set_cons_zero, List.set_cons_succ]
          obtain ⟨S4, hP3⟩ := HPUT.out w2 (hdr.trans hg2) _ B0 d0 B1 d1 hor
          have hfr2 : ∀ j, w2.frozen? ⟨gt, j, none⟩ = false := fun j => (grow_frz hg2 hgx).trans (hfrx j)
          have hg2l : gt < w2.heap.size := by have := hg2.size; omega
          clear hfrx hfr HPUT
          refine AnyT.take (i := 17) (cs := [18]) rfl (by kernel_rfl) (by kernel_rfl) (by kernel_rfl) (by kernel_rfl) rfl (by kernel_rfl) (fun _ _ _ h => h) hH (by rfl) (by intro w hSw; (try dsimp only at hSw); go_simp; (try with_reducible rfl)) ?_
          try simp only [Act.put, List.setIfInBounds_toArray, List.set_cons_zero, List.set_cons_succ]
          refine AnyT.last (by kernel_rfl) rfl (by kernel_rfl) (fun K hK => ?_)
          go_simp
          refine hK.out _ _ ?_
          clear hK hH hH2 hI p0 p1 p2 p3 q0 q1 q2 q3 q4 q5 q6
          try simp only [Act.put, List.setIfInBounds_toArray, List.set_cons_zero, List.set_cons_succ]
          generalize (((((((w2.setCell ⟨gt, t * 7, none⟩ (.int .i64 (stepM x.Space m).Pc)).setCell ⟨gt, t * 7 + 1, none⟩ (.int .i64 (stepM x.Space m).Sp)).setCell ⟨gt, t * 7 + 2, none⟩ (.int .i64 (stepM x.Space m).Fp)).setCell ⟨gt, t * 7 + 3, none⟩ (.slice B0 (stepM x.Space m).Stack.length d0)).setCell ⟨gt, t * 7 + 4, none⟩ (.slice B1 (stepM x.Space m).Out.length d1)).setCell ⟨gt, t * 7 + 5, none⟩ (.int .i64 (stepM x.Space m).State)).setCell ⟨gt, t * 7 + 6, none⟩ (.int .i64 (stepM x.Space m).Value)) = w3 at hP3 ⊢
          have hbx : w3.heap[gp]? = some (.cells #[.slice A0 x.Space.Images.length c0, .slice A1 x.Space.Bases.length c1, .slice A2 x.Space.Entries.length c2, .slice (some ⟨gt, 0, none⟩) (x.Threads.set t (stepM x.Space m)).length c3, .int .i64 (t : Int), .int .i64 L0, .int .i64 x.Slice] 36 (0, 0)) := hP3.box
          clear p4 p5 p6 pf pl
          obtain ⟨p0, p1, p2, p3, p4, p5, p6, pf, pl⟩ := row7 hbx
          rw [List.length_set] at p3
          clear hbx
          have hwl : wrap64 (L0 - 1) = L0 - 1 := wrap64_small (by omega) (by omega)
          go_upto_region 12 with (fail)
          have hP4 := hP3.num (i := 5) (v := .int .i64 (L0 - 1)) (t := (t : Int)) (l := L0 - 1) (fun _ _ _ _ _ => rfl)
          generalize w3.setCell ⟨gp, 5, none⟩ (.int .i64 (L0 - 1)) = w4 at hP4 ⊢
          have hbx : w4.heap[gp]? = some (.cells #[.slice A0 x.Space.Images.length c0, .slice A1 x.Space.Bases.length c1, .slice A2 x.Space.Entries.length c2, .slice (some ⟨gt, 0, none⟩) (x.Threads.set t (stepM x.Space m)).length c3, .int .i64 (t : Int), .int .i64 (L0 - 1), .int .i64 x.Slice] 36 (0, 0)) := hP4.box
          clear p0 p1 p2 p3 p4 p5 p6 pf pl
          obtain ⟨p0, p1, p2, p3, p4, p5, p6, pf, pl⟩ := row7 hbx
          rw [List.length_set] at p3
          clear hbx
          by_cases hz : L0 - 1 = 0
          · have hL1 : L0 = 1 := by omega
            go_upto_region 14 with (fail)
            have hP5 := hP4.num (i := 5) (v := .int .i64 x.Slice) (t := (t : Int)) (l := x.Slice) (fun _ _ _ _ _ => rfl)
            generalize w4.setCell ⟨gp, 5, none⟩ (.int .i64 x.Slice) = w5 at hP5 ⊢
            have hbx : w5.heap[gp]? = some (.cells #[.slice A0 x.Space.Images.length c0, .slice A1 x.Space.Bases.length c1, .slice A2 x.Space.Entries.length c2, .slice (some ⟨gt, 0, none⟩) (x.Threads.set t (stepM x.Space m)).length c3, .int .i64 (t : Int), .int .i64 x.Slice, .int .i64 x.Slice] 36 (0, 0)) := hP5.box
            clear p0 p1 p2 p3 p4 p5 p6 pf pl
            obtain ⟨p0, p1, p2, p3, p4, p5, p6, pf, pl⟩ := row7 hbx
            rw [List.length_set] at p3
            clear hbx
            have hmt2 : ((t : Int) + 1).tmod (x.Threads.length : Int) = (((t + 1) % x.Threads.length : Nat) : Int) := by rw [show (t : Int) + 1 = ((t + 1 : Nat) : Int) from by omega]; exact rfl
            have hmt3 : ((t : Int) + 1) % (x.Threads.length : Int) = (((t + 1) % x.Threads.length : Nat) : Int) := by rw [show (t : Int) + 1 = ((t + 1 : Nat) : Int) from by omega]; exact rfl
            obtain ⟨t2, ht2⟩ : ∃ t2, (t + 1) % x.Threads.length = t2 := ⟨_, rfl⟩
            rw [ht2] at hmt2 hmt3
            go_upto_region 15 with (fail)
            have hP6 := hP5.num (i := 4) (v := .int .i64 (t2 : Int)) (t := (t2 : Int)) (l := x.Slice) (fun _ _ _ _ _ => rfl)
            generalize w5.setCell ⟨gp, 4, none⟩ (.int .i64 (t2 : Int)) = w6 at hP6 ⊢
            go_wp2_with (fail)
            refine bodyPost_ret (v := .int .i64 (t : Int)) (by simp [results, Try.results79, go_sem]) rfl ⟨by rw [HRES.out], ?_, S4, ?_⟩
            · rw [HRES.out]
              exact hv.turn hk2 htl
            · rw [HRES.out, turnAt_eq hl0]
              simp only [if_pos hz, ht2]
              exact hP6
          · have hL1 : ¬ L0 = 1 := by omega
            go_wp2_with (fail)
            refine bodyPost_ret (v := .int .i64 (t : Int)) (by simp [results, Try.results79, go_sem]) rfl ⟨by rw [HRES.out], ?_, S4, ?_⟩
            · rw [HRES.out]
              exact hv.turn hk2 htl
            · rw [HRES.out, turnAt_eq hl0]
              simp only [if_neg hz]
              exact hP4
        · rw [hA3] at p3
          have HA3 := Lib.hid hA3
          clear hA3
          obtain rfl : k = 0 := by omega
          rw [Nat.add_zero] at ht
          have hkp : True := trivial
          have htT : t = T := by rw [← ht, Nat.mod_eq_of_lt (by omega)]
          subst htT
          have hmodT1 : (t : Int).tmod (x.Threads.length : Int) = (t : Int) := Int.tmod_eq_of_lt (by omega) (by omega)
          have hmodT2 : (t : Int) % (x.Threads.length : Int) = (t : Int) := Int.emod_eq_of_lt (by omega) (by omega)
          have hl0 : (if decide (0 < 0) = true then x.Slice else x.Left) - 1 = x.Left - 1 := by rw [if_neg (by simp)]
          go_upto_region 10 with (fail)
          have hP1 : PSt B Y wr gp { x with Turn := (t : Int), Left := x.Left } A0 c0 A1 c1 A2 c2 A3 c3 S0 S3 := by rw [← hT]; exact HP.out
          obtain ⟨w1, hw1⟩ : ∃ w1, wr = w1 := ⟨_, rfl⟩
          rw [hw1] at hP1 ⊢
          clear hw1
          obtain ⟨L0, hL0⟩ : ∃ L0, x.Left = L0 := ⟨_, rfl⟩
          have hL01 : 1 ≤ L0 := by omega
          have hL02 : L0 ≤ 1000 := by omega
          rw [hL0] at hP1
          have hl0 : (if decide (0 < 0) = true then x.Slice else x.Left) - 1 = L0 - 1 := by rw [hl0, hL0]
          clear hL0 hT hmodT1 hmodT2 p0 p1 p2 p3 p4 p5 p6 pf pl
          clear HP hG hE q0 q1 q2 q3 q4 q5 q6 hgl hgtp hfr HTU hkp hmod1 hmod2 hk0 ht hkn hlt
          have HS0 := Lib.hid hs
          have HMK := Lib.hid hmk
          have hbx : w1.heap[gp]? = some (.cells #[.slice A0 x.Space.Images.length c0, .slice A1 x.Space.Bases.length c1, .slice A2 x.Space.Entries.length c2, .slice A3 x.Threads.length c3, .int .i64 (t : Int), .int .i64 L0, .int .i64 x.Slice] 36 (0, 0)) := hP1.box
          have hdr : Gro w1 w1.drew := (Gro.refl w1).drew
          obtain ⟨f0, f1, f2⟩ := leavesSpace hP1.sp.read
          obtain ⟨gt, A4, c4, A5, c5, rfl, hgl, hgtp, hfr, ⟨q0, q1, q2, q3, q4, q5, q6⟩, o3, o4, hput⟩ := hP1.thread hmt
          have HPUT := Lib.hid hput
          clear hs hmk hput hP1
          obtain ⟨p0, p1, p2, p3, p4, p5, p6, pf, pl⟩ := row7 hbx
          clear hbx
          refine region_T (fun w' => w'.cell? ⟨gp, 0, none⟩ = some (.slice A0 x.Space.Images.length c0) ∧ w'.cell? ⟨gp, 1, none⟩ = some (.slice A1 x.Space.Bases.length c1) ∧ w'.cell? ⟨gp, 2, none⟩ = some (.slice A2 x.Space.Entries.length c2) ∧ w'.cell? ⟨gp, 3, none⟩ = some (.slice (some ⟨gt, 0, none⟩) x.Threads.length c3) ∧ w'.cell? ⟨gt, t * 7, none⟩ = some (.int .i64 m.Pc) ∧ w'.cell? ⟨gt, t * 7 + 1, none⟩ = some (.int .i64 m.Sp) ∧ w'.cell? ⟨gt, t * 7 + 2, none⟩ = some (.int .i64 m.Fp) ∧ w'.cell? ⟨gt, t * 7 + 3, none⟩ = some (.slice A4 m.Stack.length c4) ∧ w'.cell? ⟨gt, t * 7 + 4, none⟩ = some (.slice A5 m.Out.length c5) ∧ w'.cell? ⟨gt, t * 7 + 5, none⟩ = some (.int .i64 m.State) ∧ w'.cell? ⟨gt, t * 7 + 6, none⟩ = some (.int .i64 m.Value)) 18 (by kernel_rfl) (And.intro (drew_keeps p0) (And.intro (drew_keeps p1) (And.intro (drew_keeps p2) (And.intro (drew_keeps p3) (And.intro (drew_keeps q0) (And.intro (drew_keeps q1) (And.intro (drew_keeps q2) (And.intro (drew_keeps q3) (And.intro (drew_keeps q4) (And.intro (drew_keeps q5) (drew_keeps q6))))))))))) (fun hH => ?_)
          have f0 := Ty.up _ f0 hdr
          have f1 := Ty.up _ f1 hdr
          have f2 := Ty.up _ f2 hdr
          have o3 := Ty.up _ o3 hdr
          have o4 := Ty.up _ o4 hdr
          clear p0 p1 p2 p3 q0 q1 q2 q3 q4 q5 q6
          have hsz9 : w1.heap.size ≤ w1.drew.heap.size := hdr.size
          generalize w1.drew = wx at hdr hH f0 f1 f2 o3 o4 hsz9 ⊢
          obtain ⟨p0, p1, p2, p3, q0, q1, q2, q3, q4, q5, q6⟩ := id hH
          have hfrx : ∀ j, wx.frozen? ⟨gt, j, none⟩ = false := fun j => (grow_frz hdr hgl).trans (hfr j)
          have hgx : gt < wx.heap.size := by omega
          refine AnyT.take (i := 0) (cs := [18]) rfl (by kernel_rfl) (by kernel_rfl) (by kernel_rfl) (by kernel_rfl) rfl (by kernel_rfl) (fun _ _ _ h => h) hH (by rfl) (by intro w hSw; (try dsimp only at hSw); go_simp; (try with_reducible rfl)) ?_
          try simp only [Act.put, List.setIfInBounds_toArray, List.set_cons_zero, List.set_cons_succ]
          refine AnyT.take (i := 1) (cs := [18]) rfl (by kernel_rfl) (by kernel_rfl) (by kernel_rfl) (by kernel_rfl) rfl (by kernel_rfl) (fun _ _ _ h => h) hH (by rfl) (by intro w hSw; (try dsimp only at hSw); go_simp; (try with_reducible rfl)) ?_
          try simp only [Act.put, List.setIfInBounds_toArray, List.set_cons_zero, List.set_cons_succ]
          refine AnyT.take (i := 2) (cs := [18]) rfl (by kernel_rfl) (by kernel_rfl) (by kernel_rfl) (by kernel_rfl) rfl (by kernel_rfl) (fun _ _ _ h => h) hH (by rfl) (by intro w hSw; (try dsimp only at hSw); go_simp; (try with_reducible rfl)) ?_
          try simp only [Act.put, List.setIfInBounds_toArray, List.set_cons_zero, List.set_cons_succ]
          refine AnyT.take (i := 3) (cs := [18]) rfl (by kernel_rfl) (by kernel_rfl) (by kernel_rfl) (by kernel_rfl) rfl (by kernel_rfl) (fun _ _ _ h => h) hH (by rfl) (by intro w hSw; (try dsimp only at hSw); go_simp; (try with_reducible rfl)) ?_
          try simp only [Act.put, List.setIfInBounds_toArray, List.set_cons_zero, List.set_cons_succ]
          refine AnyT.take (i := 4) (cs := [18]) rfl (by kernel_rfl) (by kernel_rfl) (by kernel_rfl) (by kernel_rfl) rfl (by kernel_rfl) (fun _ _ _ h => h) hH (by rfl) (by intro w hSw; (try dsimp only at hSw); go_simp; (try with_reducible rfl)) ?_
          try simp only [Act.put, List.setIfInBounds_toArray, List.set_cons_zero, List.set_cons_succ]
          refine AnyT.take (i := 5) (cs := [18]) rfl (by kernel_rfl) (by kernel_rfl) (by kernel_rfl) (by kernel_rfl) rfl (by kernel_rfl) (fun _ _ _ h => h) hH (by rfl) (by intro w hSw; (try dsimp only at hSw); go_simp; (try with_reducible rfl)) ?_
          try simp only [Act.put, List.setIfInBounds_toArray, List.set_cons_zero, List.set_cons_succ]
          refine AnyT.take (i := 6) (cs := [18]) rfl (by kernel_rfl) (by kernel_rfl) (by kernel_rfl) (by kernel_rfl) rfl (by kernel_rfl) (fun _ _ _ h => h) hH (by rfl) (by intro w hSw; (try dsimp only at hSw); go_simp; (try with_reducible rfl)) ?_
          try simp only [Act.put, List.setIfInBounds_toArray, List.set_cons_zero, List.set_cons_succ]
          refine AnyT.take (i := 7) (cs := [18]) rfl (by kernel_rfl) (by kernel_rfl) (by kernel_rfl) (by kernel_rfl) rfl (by kernel_rfl) (fun _ _ _ h => h) hH (by rfl) (by intro w hSw; (try dsimp only at hSw); go_simp; (try with_reducible rfl)) ?_
          try simp only [Act.put, List.setIfInBounds_toArray, List.set_cons_zero, List.set_cons_succ]
          refine AnyT.take (i := 8) (cs := [18]) rfl (by kernel_rfl) (by kernel_rfl) (by kernel_rfl) (by kernel_rfl) rfl (by kernel_rfl) (fun _ _ _ h => h) hH (by rfl) (by intro w hSw; (try dsimp only at hSw); go_simp; (try with_reducible rfl)) ?_
          try simp only [Act.put, List.setIfInBounds_toArray, List.set_cons_zero, List.set_cons_succ]
          refine AnyT.take (i := 9) (cs := [18]) rfl (by kernel_rfl) (by kernel_rfl) (by kernel_rfl) (by kernel_rfl) rfl (by kernel_rfl) (fun _ _ _ h => h) hH (by rfl) (by intro w hSw; (try dsimp only at hSw); go_simp; (try with_reducible rfl)) ?_
          try simp only [Act.put, List.setIfInBounds_toArray, List.set_cons_zero, List.set_cons_succ]
          refine AnyT.take (i := 10) (cs := [18]) rfl (by kernel_rfl) (by kernel_rfl) (by kernel_rfl) (by kernel_rfl) rfl (by kernel_rfl) (fun _ _ _ h => h) hH (by rfl) (by intro w hSw; (try dsimp only at hSw); go_simp; (try with_reducible rfl)) ?_
          try simp only [Act.put, List.setIfInBounds_toArray, List.set_cons_zero, List.set_cons_succ]
          refine AnyT.take (i := 11) (cs := [18]) rfl (by kernel_rfl) (by kernel_rfl) (by kernel_rfl) (by kernel_rfl) rfl (by kernel_rfl) (fun _ _ _ h => h) hH (by rfl) (by intro w hSw; (try dsimp only at hSw); go_simp; (try with_reducible rfl)) ?_
          try simp only [Act.put, List.setIfInBounds_toArray, List.set_cons_zero, List.set_cons_succ]
          refine AnyT.take (i := 12) (cs := [18]) rfl (by kernel_rfl) (by kernel_rfl) (by kernel_rfl) (by kernel_rfl) rfl (by kernel_rfl) (fun _ _ _ h => h) hH (by rfl) (by intro w hSw; (try dsimp only at hSw); go_simp; (try with_reducible rfl)) ?_
          try simp only [Act.put, List.setIfInBounds_toArray, List.set_cons_zero, List.set_cons_succ]
          refine AnyT.take (i := 13) (cs := [18]) rfl (by kernel_rfl) (by kernel_rfl) (by kernel_rfl) (by kernel_rfl) rfl (by kernel_rfl) (fun _ _ _ h => h) hH (by rfl) (by intro w hSw; (try dsimp only at hSw); go_simp; (try with_reducible rfl)) ?_
          try simp only [Act.put, List.setIfInBounds_toArray, List.set_cons_zero, List.set_cons_succ]
          refine AnyT.take (i := 14) (cs := [18]) rfl (by kernel_rfl) (by kernel_rfl) (by kernel_rfl) (by kernel_rfl) rfl (by kernel_rfl) (fun _ _ _ h => h) hH (by rfl) (by intro w hSw; (try dsimp only at hSw); go_simp; (try with_reducible rfl)) ?_
          try simp only [Act.put, List.setIfInBounds_toArray, List.set_cons_zero, List.set_cons_succ]
          refine AnyT.take (i := 15) (cs := [18]) rfl (by kernel_rfl) (by kernel_rfl) (by kernel_rfl) (by kernel_rfl) rfl (by kernel_rfl) (fun _ _ _ h => h) hH (by rfl) (by intro w hSw; (try dsimp only at hSw); go_simp; (try with_reducible rfl)) ?_
          try simp only [Act.put, List.setIfInBounds_toArray, List.set_cons_zero, List.set_cons_succ]
          refine AnyT.one (i := 16) (by kernel_rfl) rfl (fun K hK => ?_)
          go_simp
          go_at_call 109
          refine (step_i (s := x.Space) (m := m) (N := N) f0 f1 f2 o3 o4 HIMG.out.1 HIMG.out.2.1 HIMG.out.2.2 HMK.out hN HS0.out).mono ?_
          rintro e w2 ⟨B0, d0, B1, d1, rfl, hg2, hk2, hor⟩
          have hor := hor.imp (fun hF => fresh_lo hF hsz9) id
          have p0 := grow_cell hg2 p0
          have p1 := grow_cell hg2 p1
          have p2 := grow_cell hg2 p2
          have p3 := grow_cell hg2 p3
          have q0 := grow_cell hg2 q0
          have q1 := grow_cell hg2 q1
          have q2 := grow_cell hg2 q2
          have q3 := grow_cell hg2 q3
          have q4 := grow_cell hg2 q4
          have q5 := grow_cell hg2 q5
          have q6 := grow_cell hg2 q6
          have hH2 := (And.intro p0 (And.intro p1 (And.intro p2 (And.intro p3 (And.intro q0 (And.intro q1 (And.intro q2 (And.intro q3 (And.intro q4 (And.intro q5 q6))))))))))
          refine hK.out _ _ hH2 (fun hI => ?_)
          clear hK hH
          have hH := hI
          try simp only [Act.put, List.setIfInBounds_toArray, List.set_cons_zero, List.set_cons_succ]
          obtain ⟨S4, hP3⟩ := HPUT.out w2 (hdr.trans hg2) _ B0 d0 B1 d1 hor
          have hfr2 : ∀ j, w2.frozen? ⟨gt, j, none⟩ = false := fun j => (grow_frz hg2 hgx).trans (hfrx j)
          have hg2l : gt < w2.heap.size := by have := hg2.size; omega
          clear hfrx hfr HPUT
          refine AnyT.take (i := 17) (cs := [18]) rfl (by kernel_rfl) (by kernel_rfl) (by kernel_rfl) (by kernel_rfl) rfl (by kernel_rfl) (fun _ _ _ h => h) hH (by rfl) (by intro w hSw; (try dsimp only at hSw); go_simp; (try with_reducible rfl)) ?_
          try simp only [Act.put, List.setIfInBounds_toArray, List.set_cons_zero, List.set_cons_succ]
          refine AnyT.last (by kernel_rfl) rfl (by kernel_rfl) (fun K hK => ?_)
          go_simp
          refine hK.out _ _ ?_
          clear hK hH hH2 hI p0 p1 p2 p3 q0 q1 q2 q3 q4 q5 q6
          try simp only [Act.put, List.setIfInBounds_toArray, List.set_cons_zero, List.set_cons_succ]
          generalize (((((((w2.setCell ⟨gt, t * 7, none⟩ (.int .i64 (stepM x.Space m).Pc)).setCell ⟨gt, t * 7 + 1, none⟩ (.int .i64 (stepM x.Space m).Sp)).setCell ⟨gt, t * 7 + 2, none⟩ (.int .i64 (stepM x.Space m).Fp)).setCell ⟨gt, t * 7 + 3, none⟩ (.slice B0 (stepM x.Space m).Stack.length d0)).setCell ⟨gt, t * 7 + 4, none⟩ (.slice B1 (stepM x.Space m).Out.length d1)).setCell ⟨gt, t * 7 + 5, none⟩ (.int .i64 (stepM x.Space m).State)).setCell ⟨gt, t * 7 + 6, none⟩ (.int .i64 (stepM x.Space m).Value)) = w3 at hP3 ⊢
          have hbx : w3.heap[gp]? = some (.cells #[.slice A0 x.Space.Images.length c0, .slice A1 x.Space.Bases.length c1, .slice A2 x.Space.Entries.length c2, .slice (some ⟨gt, 0, none⟩) (x.Threads.set t (stepM x.Space m)).length c3, .int .i64 (t : Int), .int .i64 L0, .int .i64 x.Slice] 36 (0, 0)) := hP3.box
          clear p4 p5 p6 pf pl
          obtain ⟨p0, p1, p2, p3, p4, p5, p6, pf, pl⟩ := row7 hbx
          rw [List.length_set] at p3
          clear hbx
          have hwl : wrap64 (L0 - 1) = L0 - 1 := wrap64_small (by omega) (by omega)
          go_upto_region 12 with (fail)
          have hP4 := hP3.num (i := 5) (v := .int .i64 (L0 - 1)) (t := (t : Int)) (l := L0 - 1) (fun _ _ _ _ _ => rfl)
          generalize w3.setCell ⟨gp, 5, none⟩ (.int .i64 (L0 - 1)) = w4 at hP4 ⊢
          have hbx : w4.heap[gp]? = some (.cells #[.slice A0 x.Space.Images.length c0, .slice A1 x.Space.Bases.length c1, .slice A2 x.Space.Entries.length c2, .slice (some ⟨gt, 0, none⟩) (x.Threads.set t (stepM x.Space m)).length c3, .int .i64 (t : Int), .int .i64 (L0 - 1), .int .i64 x.Slice] 36 (0, 0)) := hP4.box
          clear p0 p1 p2 p3 p4 p5 p6 pf pl
          obtain ⟨p0, p1, p2, p3, p4, p5, p6, pf, pl⟩ := row7 hbx
          rw [List.length_set] at p3
          clear hbx
          by_cases hz : L0 - 1 = 0
          · have hL1 : L0 = 1 := by omega
            go_upto_region 14 with (fail)
            have hP5 := hP4.num (i := 5) (v := .int .i64 x.Slice) (t := (t : Int)) (l := x.Slice) (fun _ _ _ _ _ => rfl)
            generalize w4.setCell ⟨gp, 5, none⟩ (.int .i64 x.Slice) = w5 at hP5 ⊢
            have hbx : w5.heap[gp]? = some (.cells #[.slice A0 x.Space.Images.length c0, .slice A1 x.Space.Bases.length c1, .slice A2 x.Space.Entries.length c2, .slice (some ⟨gt, 0, none⟩) (x.Threads.set t (stepM x.Space m)).length c3, .int .i64 (t : Int), .int .i64 x.Slice, .int .i64 x.Slice] 36 (0, 0)) := hP5.box
            clear p0 p1 p2 p3 p4 p5 p6 pf pl
            obtain ⟨p0, p1, p2, p3, p4, p5, p6, pf, pl⟩ := row7 hbx
            rw [List.length_set] at p3
            clear hbx
            have hmt2 : ((t : Int) + 1).tmod (x.Threads.length : Int) = (((t + 1) % x.Threads.length : Nat) : Int) := by rw [show (t : Int) + 1 = ((t + 1 : Nat) : Int) from by omega]; exact rfl
            have hmt3 : ((t : Int) + 1) % (x.Threads.length : Int) = (((t + 1) % x.Threads.length : Nat) : Int) := by rw [show (t : Int) + 1 = ((t + 1 : Nat) : Int) from by omega]; exact rfl
            obtain ⟨t2, ht2⟩ : ∃ t2, (t + 1) % x.Threads.length = t2 := ⟨_, rfl⟩
            rw [ht2] at hmt2 hmt3
            go_upto_region 15 with (fail)
            have hP6 := hP5.num (i := 4) (v := .int .i64 (t2 : Int)) (t := (t2 : Int)) (l := x.Slice) (fun _ _ _ _ _ => rfl)
            generalize w5.setCell ⟨gp, 4, none⟩ (.int .i64 (t2 : Int)) = w6 at hP6 ⊢
            go_wp2_with (fail)
            refine bodyPost_ret (v := .int .i64 (t : Int)) (by simp [results, Try.results79, go_sem]) rfl ⟨by rw [HRES.out], ?_, S4, ?_⟩
            · rw [HRES.out]
              exact hv.turn hk2 htl
            · rw [HRES.out, turnAt_eq hl0]
              simp only [if_pos hz, ht2]
              exact hP6
          · have hL1 : ¬ L0 = 1 := by omega
            go_wp2_with (fail)
            refine bodyPost_ret (v := .int .i64 (t : Int)) (by simp [results, Try.results79, go_sem]) rfl ⟨by rw [HRES.out], ?_, S4, ?_⟩
            · rw [HRES.out]
              exact hv.turn hk2 htl
            · rw [HRES.out, turnAt_eq hl0]
              simp only [if_neg hz]
              exact hP4
      · have hE2 := hE.out
        rw [hfk, turnGo_skip hmt' hs] at hE2
        have HE2 := Lib.hid hE2
        clear hE2 hmt' hfk
        go_wp2_with (fail)
        go_roundw
        case measure => (simp [intOf]; try omega)
        case rel => exact ⟨k + 1, by simp, by omega, hG, HE2⟩
    · have hkn2 : ¬ ((k : Int) < (x.Threads.length : Int)) := by omega
      have hE2 := hE.out
      rw [show x.Threads.length - k = 0 from by omega] at hE2
      have HRES := Lib.hid (show turnP x = (x, -1) from hE2.symm)
      clear hE2
      go_wp2_with (fail)
      exact bodyPost_ret (v := .int .i64 (-1)) (by simp [results, Try.results79, go_sem]) rfl ⟨by rw [HRES.out], by rw [HRES.out]; exact hv.up, S3, by rw [HRES.out]; exact HP.out⟩
end Go.Proofs.Ytbhobjepjaeffaa
namespace Go.Proofs.Ytbhobjepjaeffaa
open Go.RowKit
set_option maxRecDepth 100000 in
set_option maxHeartbeats 3000000 in
theorem turn_s {B : List (Nat × Obj)} {Y W : World} {gp N : Nat} {x : DProcess} {A0 A1 A2 A3 : Option Addr} {c0 c1 c2 c3 : Nat} {S0 S3 : List Nat} (h : PSt B Y W gp x A0 c0 A1 c1 A2 c2 A3 c3 S0 S3) (hv : PInv N x) (hN : N ≤ 1099511620000) :
    Calls Try.prog 77 #[.pointer (some ⟨gp, 0, none⟩)] W fun r W' => r = .returned (.int .i64 (turnP x).2) ∧ PInv (N + 1) (turnP x).1 ∧ ∃ S3', PSt B Y W' gp (turnP x).1 A0 c0 A1 c1 A2 c2 A3 c3 S0 S3' := by
  have HIMG := Lib.hid hv.img
  have hn1 := hv.n1
  have hn3 := hv.n3
  have ht1 := hv.t1
  have hl1 := hv.l1
  have hl2 := hv.l2
  have hs1 := hv.s1
  obtain ⟨T, hT⟩ := Int.eq_ofNat_of_zero_le hv.t0
  have HTU := Lib.hid hT
  have hTn : T < x.Threads.length := by omega
  obtain ⟨p0, p1, p2, p3, p4, p5, p6, pf, pl⟩ := row7 h.box
  go_enter Try.func77, Try.ntmps77
  go_wp2
  go_loopw [3] (fun a wr => ∃ k : Nat, a = .int .i64 k ∧ k ≤ x.Threads.length ∧ Hid (Gro W wr) ∧ Hid (turnGo x (x.Threads.length - k) k = turnP x)) (fun a _ => x.Threads.length - (intOf a).toNat)
  case atStart => exact ⟨0, rfl, Nat.zero_le _, Lib.hid (Gro.refl _), Lib.hid rfl⟩
  case round =>
    obtain ⟨k, rfl, hkn, hG, hE⟩ := hrel
    have HP := Lib.hid (h.gro' hG.out)
    clear p0 p1 p2 p3 p4 p5 p6 pf pl
    obtain ⟨p0, p1, p2, p3, p4, p5, p6, pf, pl⟩ := row7 HP.out.box
    by_cases hlt : k < x.Threads.length
    · obtain ⟨t, ht⟩ : ∃ t, (T + k) % x.Threads.length = t := ⟨_, rfl⟩
      have htl : t < x.Threads.length := by rw [← ht]; exact Nat.mod_lt _ (by omega)
      have hmod1 : ((T : Int) + (k : Int)).tmod (x.Threads.length : Int) = (t : Int) := by rw [← ht]; rfl
      have hmod2 : ((T : Int) + (k : Int)) % (x.Threads.length : Int) = (t : Int) := by rw [← ht]; rfl
      obtain ⟨m, hmt⟩ : ∃ m, x.Threads[t]? = some m := ⟨_, List.getElem?_eq_getElem htl⟩
      have hmk := hv.ms m (List.mem_of_getElem? hmt)
      have hmt' : x.Threads[(x.Turn.toNat + k) % x.Threads.length]? = some m := by rw [hT, Int.toNat_natCast, ht]; exact hmt
      have hfk : x.Threads.length - k = (x.Threads.length - (k + 1)) + 1 := by omega
      have hki : (k : Int) < (x.Threads.length : Int) := by omega
      have hn0 : ¬ ((x.Threads.length : Int) = 0) := by omega
      have hwr : IntKind.i64.wrap ((T : Int) + (k : Int)) = (T : Int) + (k : Int) := IntWalk.i64_in _ ⟨by omega, by omega⟩
      go_upto_region 4 with (fail)
      refine region_tail 11 (by kernel_rfl) (by kernel_rfl) (fun wr hgx => ?_)
      have HP := Lib.hid (HP.out.gro' hgx)
      have hG := Lib.hid (hG.out.trans hgx)
      clear p0 p1 p2 p3 p4 p5 p6 pf pl
      obtain ⟨p0, p1, p2, p3, p4, p5, p6, pf, pl⟩ := row7 HP.out.box
      simp only [List.take_succ_cons, List.take_zero, List.drop_succ_cons, List.drop_zero]
      repeat still_step
      refine wpStill_nil ?_
      go_upto_region 5 with (fail)
      obtain ⟨gt, A4, c4, A5, c5, hA3, hgl, hgtp, hfr, ⟨q0, q1, q2, q3, q4, q5, q6⟩, _, _, _⟩ := HP.out.thread hmt
      have hki : (k : Int) < (x.Threads.length : Int) := by omega
      have hti : (t : Int) < (x.Threads.length : Int) := by omega
      have hn0 : ¬ ((x.Threads.length : Int) = 0) := by omega
      rw [hA3] at p3
      by_cases hs : m.State = 0
      · have hE2 := hE.out
        rw [hfk, turnGo_hit hmt' hs, hT, Int.toNat_natCast, ht] at hE2
        have HRES := Lib.hid hE2.symm
        rw [← hA3] at p3
        clear hE2 hmt' hfk
        by_cases hk0 : 0 < k
        · have hA3' := hA3
          rw [hA3] at p3
          have HA3 := Lib.hid hA3
          clear hA3 hA3'
          have hkp : (0 : Int) < (k : Int) := by omega
          have htc : t = T + k ∨ t + x.Threads.length = T + k := by
            rw [← ht]
            rcases Nat.lt_or_ge (T + k) x.Threads.length with h9 | h9
            · exact .inl (Nat.mod_eq_of_lt h9)
            · rw [Nat.mod_eq_sub_mod h9, Nat.mod_eq_of_lt (by omega)]
              omega
          have hne : ¬ ((t : Int) = x.Turn) := by omega
          clear htc
          have hl0 : (if decide (0 < k) = true then x.Slice else x.Left) - 1 = x.Slice - 1 := by rw [if_pos (by simpa using hk0)]
          go_upto_region 8 with (fail)
          have hP0 := HP.out.num (i := 5) (v := .int .i64 x.Slice) (t := x.Turn) (l := x.Slice) (fun _ _ _ _ _ => rfl)
          generalize wr.setCell ⟨gp, 5, none⟩ (.int .i64 x.Slice) = wa at hP0 ⊢
          have hbx : wa.heap[gp]? = some (.cells #[.slice A0 x.Space.Images.length c0, .slice A1 x.Space.Bases.length c1, .slice A2 x.Space.Entries.length c2, .slice A3 x.Threads.length c3, .int .i64 x.Turn, .int .i64 x.Slice, .int .i64 x.Slice] 36 (0, 0)) := hP0.box
          clear p0 p1 p2 p3 p4 p5 p6 pf pl
          obtain ⟨p0, p1, p2, p3, p4, p5, p6, pf, pl⟩ := row7 hbx
          clear hbx
          go_upto_region 9 with (fail)
          have hP1 := hP0.num (i := 4) (v := .int .i64 (t : Int)) (t := (t : Int)) (l := x.Slice) (fun _ _ _ _ _ => rfl)
          generalize wa.setCell ⟨gp, 4, none⟩ (.int .i64 (t : Int)) = w1 at hP1 ⊢
          obtain ⟨L0, hL0⟩ : ∃ L0, x.Slice = L0 := ⟨_, rfl⟩
          have hL01 : 1 ≤ L0 := by omega
          have hL02 : L0 ≤ 1000 := by omega
          have hl0 : (if decide (0 < k) = true then x.Slice else x.Left) - 1 = L0 - 1 := by rw [hl0, hL0]
          have hP1 : PSt B Y w1 gp { x with Turn := (t : Int), Left := L0 } A0 c0 A1 c1 A2 c2 A3 c3 S0 S3 := by rw [← hL0]; exact hP1
          clear hL0 hne hP0 p0 p1 p2 p3 p4 p5 p6 pf pl
          clear HP hG hE q0 q1 q2 q3 q4 q5 q6 hgl hgtp hfr HTU hkp hmod1 hmod2 hk0 ht hkn hlt
          have HS0 := Lib.hid hs
          have HMK := Lib.hid hmk
          have hbx : w1.heap[gp]? = some (.cells #[.slice A0 x.Space.Images.length c0, .slice A1 x.Space.Bases.length c1, .slice A2 x.Space.Entries.length c2, .slice A3 x.Threads.length c3, .int .i64 (t : Int), .int .i64 L0, .int .i64 x.Slice] 36 (0, 0)) := hP1.box
          have hdr : Gro w1 w1.drew := (Gro.refl w1).drew
          obtain ⟨f0, f1, f2⟩ := leavesSpace hP1.sp.read
          obtain ⟨gt, A4, c4, A5, c5, rfl, hgl, hgtp, hfr, ⟨q0, q1, q2, q3, q4, q5, q6⟩, o3, o4, hput⟩ := hP1.thread hmt
          have HPUT := Lib.hid hput
          clear hs hmk hput hP1
          obtain ⟨p0, p1, p2, p3, p4, p5, p6, pf, pl⟩ := row7 hbx
          clear hbx
          refine region_T (fun w' => w'.cell? ⟨gp, 0, none⟩ = some (.slice A0 x.Space.Images.length c0) ∧ w'.cell? ⟨gp, 1, none⟩ = some (.slice A1 x.Space.Bases.length c1) ∧ w'.cell? ⟨gp, 2, none⟩ = some (.slice A2 x.Space.Entries.length c2) ∧ w'.cell? ⟨gp, 3, none⟩ = some (.slice (some ⟨gt, 0, none⟩) x.Threads.length c3) ∧ w'.cell? ⟨gt, t * 7, none⟩ = some (.int .i64 m.Pc) ∧ w'.cell? ⟨gt, t * 7 + 1, none⟩ = some (.int .i64 m.Sp) ∧ w'.cell? ⟨gt, t * 7 + 2, none⟩ = some (.int .i64 m.Fp) ∧ w'.cell? ⟨gt, t * 7 + 3, none⟩ = some (.slice A4 m.Stack.length c4) ∧ w'.cell? ⟨gt, t * 7 + 4, none⟩ = some (.slice A5 m.Out.length c5) ∧ w'.cell? ⟨gt, t * 7 + 5, none⟩ = some (.int .i64 m.State) ∧ w'.cell? ⟨gt, t * 7 + 6, none⟩ = some (.int .i64 m.Value)) 18 (by kernel_rfl) (And.intro (drew_keeps p0) (And.intro (drew_keeps p1) (And.intro (drew_keeps p2) (And.intro (drew_keeps p3) (And.intro (drew_keeps q0) (And.intro (drew_keeps q1) (And.intro (drew_keeps q2) (And.intro (drew_keeps q3) (And.intro (drew_keeps q4) (And.intro (drew_keeps q5) (drew_keeps q6))))))))))) (fun hH => ?_)
          have f0 := Ty.up _ f0 hdr
          have f1 := Ty.up _ f1 hdr
          have f2 := Ty.up _ f2 hdr
          have o3 := Ty.up _ o3 hdr
          have o4 := Ty.up _ o4 hdr
          clear p0 p1 p2 p3 q0 q1 q2 q3 q4 q5 q6
          have hsz9 : w1.heap.size ≤ w1.drew.heap.size := hdr.size
          generalize w1.drew = wx at hdr hH f0 f1 f2 o3 o4 hsz9 ⊢
          obtain ⟨p0, p1, p2, p3, q0, q1, q2, q3, q4, q5, q6⟩ := id hH
          have hfrx : ∀ j, wx.frozen? ⟨gt, j, none⟩ = false := fun j => (grow_frz hdr hgl).trans (hfr j)
          have hgx : gt < wx.heap.size := by omega
          refine AnyT.take (i := 0) (cs := [18]) rfl (by kernel_rfl) (by kernel_rfl) (by kernel_rfl) (by kernel_rfl) rfl (by kernel_rfl) (fun _ _ _ h => h) hH (by rfl) (by intro w hSw; (try dsimp only at hSw); go_simp; (try with_reducible rfl)) ?_
          try simp only [Act.put, List.setIfInBounds_toArray, List.set_cons_zero, List.set_cons_succ]
          refine AnyT.take (i := 1) (cs := [18]) rfl (by kernel_rfl) (by kernel_rfl) (by kernel_rfl) (by kernel_rfl) rfl (by kernel_rfl) (fun _ _ _ h => h) hH (by rfl) (by intro w hSw; (try dsimp only at hSw); go_simp; (try with_reducible rfl)) ?_
          try simp only [Act.put, List.setIfInBounds_toArray, List.set_cons_zero, List.set_cons_succ]
          refine AnyT.take (i := 2) (cs := [18]) rfl (by kernel_rfl) (by kernel_rfl) (by kernel_rfl) (by kernel_rfl) rfl (by kernel_rfl) (fun _ _ _ h => h) hH (by rfl) (by intro w hSw; (try dsimp only at hSw); go_simp; (try with_reducible rfl)) ?_
          try simp only [Act.put, List.setIfInBounds_toArray, List.set_cons_zero, List.set_cons_succ]
          refine AnyT.take (i := 3) (cs := [18]) rfl (by kernel_rfl) (by kernel_rfl) (by kernel_rfl) (by kernel_rfl) rfl (by kernel_rfl) (fun _ _ _ h => h) hH (by rfl) (by intro w hSw; (try dsimp only at hSw); go_simp; (try with_reducible rfl)) ?_
          try simp only [Act.put, List.setIfInBounds_toArray, List.set_cons_zero, List.set_cons_succ]
          refine AnyT.take (i := 4) (cs := [18]) rfl (by kernel_rfl) (by kernel_rfl) (by kernel_rfl) (by kernel_rfl) rfl (by kernel_rfl) (fun _ _ _ h => h) hH (by rfl) (by intro w hSw; (try dsimp only at hSw); go_simp; (try with_reducible rfl)) ?_
          try simp only [Act.put, List.setIfInBounds_toArray, List.set_cons_zero, List.set_cons_succ]
          refine AnyT.take (i := 5) (cs := [18]) rfl (by kernel_rfl) (by kernel_rfl) (by kernel_rfl) (by kernel_rfl) rfl (by kernel_rfl) (fun _ _ _ h => h) hH (by rfl) (by intro w hSw; (try dsimp only at hSw); go_simp; (try with_reducible rfl)) ?_
          try simp only [Act.put, List.setIfInBounds_toArray, List.set_cons_zero, List.set_cons_succ]
          refine AnyT.take (i := 6) (cs := [18]) rfl (by kernel_rfl) (by kernel_rfl) (by kernel_rfl) (by kernel_rfl) rfl (by kernel_rfl) (fun _ _ _ h => h) hH (by rfl) (by intro w hSw; (try dsimp only at hSw); go_simp; (try with_reducible rfl)) ?_
          try simp only [Act.put, List.setIfInBounds_toArray, List.set_cons_zero, List.set_cons_succ]
          refine AnyT.take (i := 7) (cs := [18]) rfl (by kernel_rfl) (by kernel_rfl) (by kernel_rfl) (by kernel_rfl) rfl (by kernel_rfl) (fun _ _ _ h => h) hH (by rfl) (by intro w hSw; (try dsimp only at hSw); go_simp; (try with_reducible rfl)) ?_
          try simp only [Act.put, List.setIfInBounds_toArray, List.set_cons_zero, List.set_cons_succ]
          refine AnyT.take (i := 8) (cs := [18]) rfl (by kernel_rfl) (by kernel_rfl) (by kernel_rfl) (by kernel_rfl) rfl (by kernel_rfl) (fun _ _ _ h => h) hH (by rfl) (by intro w hSw; (try dsimp only at hSw); go_simp; (try with_reducible rfl)) ?_
          try simp only [Act.put, List.setIfInBounds_toArray, List.set_cons_zero, List.set_cons_succ]
          refine AnyT.take (i := 9) (cs := [18]) rfl (by kernel_rfl) (by kernel_rfl) (by kernel_rfl) (by kernel_rfl) rfl (by kernel_rfl) (fun _ _ _ h => h) hH (by rfl) (by intro w hSw; (try dsimp only at hSw); go_simp; (try with_reducible rfl)) ?_
          try simp only [Act.put, List.setIfInBounds_toArray, List.set_cons_zero, List.set_cons_succ]
          refine AnyT.take (i := 10) (cs := [18]) rfl (by kernel_rfl) (by kernel_rfl) (by kernel_rfl) (by kernel_rfl) rfl (by kernel_rfl) (fun _ _ _ h => h) hH (by rfl) (by intro w hSw; (try dsimp only at hSw); go_simp; (try with_reducible rfl)) ?_
          try simp only [Act.put, List.setIfInBounds_toArray, List.set_cons_zero, List.set_cons_succ]
          refine AnyT.take (i := 11) (cs := [18]) rfl (by kernel_rfl) (by kernel_rfl) (by kernel_rfl) (by kernel_rfl) rfl (by kernel_rfl) (fun _ _ _ h => h) hH (by rfl) (by intro w hSw; (try dsimp only at hSw); go_simp; (try with_reducible rfl)) ?_
          try simp only [Act.put, List.setIfInBounds_toArray, List.set_cons_zero, List.set_cons_succ]
          refine AnyT.take (i := 12) (cs := [18]) rfl (by kernel_rfl) (by kernel_rfl) (by kernel_rfl) (by kernel_rfl) rfl (by kernel_rfl) (fun _ _ _ h => h) hH (by rfl) (by intro w hSw; (try dsimp only at hSw); go_simp; (try with_reducible rfl)) ?_
          try simp only [Act.put, List.setIfInBounds_toArray, List.set_cons_zero, List.set_cons_succ]
          refine AnyT.take (i := 13) (cs := [18]) rfl (by kernel_rfl) (by kernel_rfl) (by kernel_rfl) (by kernel_rfl) rfl (by kernel_rfl) (fun _ _ _ h => h) hH (by rfl) (by intro w hSw; (try dsimp only at hSw); go_simp; (try with_reducible rfl)) ?_
          try simp only [Act.put, List.setIfInBounds_toArray, List.set_cons_zero, List.set_cons_succ]
          refine AnyT.take (i := 14) (cs := [18]) rfl (by kernel_rfl) (by kernel_rfl) (by kernel_rfl) (by kernel_rfl) rfl (by kernel_rfl) (fun _ _ _ h => h) hH (by rfl) (by intro w hSw; (try dsimp only at hSw); go_simp; (try with_reducible rfl)) ?_
          try simp only [Act.put, List.setIfInBounds_toArray, List.set_cons_zero, List.set_cons_succ]
          refine AnyT.take (i := 15) (cs := [18]) rfl (by kernel_rfl) (by kernel_rfl) (by kernel_rfl) (by kernel_rfl) rfl (by kernel_rfl) (fun _ _ _ h => h) hH (by rfl) (by intro w hSw; (try dsimp only at hSw); go_simp; (try with_reducible rfl)) ?_
          try simp only [Act.put, List.setIfInBounds_toArray, List.set_cons_zero, List.set_cons_succ]
          refine AnyT.one (i := 16) (by kernel_rfl) rfl (fun K hK => ?_)
          go_simp
          go_at_call 107
          refine (step_s (s := x.Space) (m := m) (N := N) f0 f1 f2 o3 o4 HIMG.out.1 HIMG.out.2.1 HIMG.out.2.2 HMK.out hN HS0.out).mono ?_
          rintro e w2 ⟨⟨B0, d0, B1, d1, rfl, hF2, hg2⟩, hk2⟩
          have hor : _ ∨ ((stepM x.Space m) = { m with State := 2 } ∧ B0 = A4 ∧ d0 = c4 ∧ B1 = A5 ∧ d1 = c5) := Or.inl (fresh_lo hF2 hsz9)
          have p0 := grow_cell hg2 p0
          have p1 := grow_cell hg2 p1
          have p2 := grow_cell hg2 p2
          have p3 := grow_cell hg2 p3
          have q0 := grow_cell hg2 q0
          have q1 := grow_cell hg2 q1
          have q2 := grow_cell hg2 q2
          have q3 := grow_cell hg2 q3
          have q4 := grow_cell hg2 q4
          have q5 := grow_cell hg2 q5
          have q6 := grow_cell hg2 q6
          have hH2 := (And.intro p0 (And.intro p1 (And.intro p2 (And.intro p3 (And.intro q0 (And.intro q1 (And.intro q2 (And.intro q3 (And.intro q4 (And.intro q5 q6))))))))))
          refine hK.out _ _ hH2 (fun hI => ?_)
          clear hK hH
          have hH := hI
          try simp only [Act.put, List.setIfInBounds_toArray, List.set_cons_zero, List.set_cons_succ]
          obtain ⟨S4, hP3⟩ := HPUT.out w2 (hdr.trans hg2) _ B0 d0 B1 d1 hor
          have hfr2 : ∀ j, w2.frozen? ⟨gt, j, none⟩ = false := fun j => (grow_frz hg2 hgx).trans (hfrx j)
          have hg2l : gt < w2.heap.size := by have := hg2.size; omega
          clear hfrx hfr HPUT
          refine AnyT.take (i := 17) (cs := [18]) rfl (by kernel_rfl) (by kernel_rfl) (by kernel_rfl) (by kernel_rfl) rfl (by kernel_rfl) (fun _ _ _ h => h) hH (by rfl) (by intro w hSw; (try dsimp only at hSw); go_simp; (try with_reducible rfl)) ?_
          try simp only [Act.put, List.setIfInBounds_toArray, List.set_cons_zero, List.set_cons_succ]
          refine AnyT.last (by kernel_rfl) rfl (by kernel_rfl) (fun K hK => ?_)
          go_simp
          refine hK.out _ _ ?_
          clear hK hH hH2 hI p0 p1 p2 p3 q0 q1 q2 q3 q4 q5 q6
          try simp only [Act.put, List.setIfInBounds_toArray, List.set_cons_zero, List.set_cons_succ]
          generalize (((((((w2.setCell ⟨gt, t * 7, none⟩ (.int .i64 (stepM x.Space m).Pc)).setCell ⟨gt, t * 7 + 1, none⟩ (.int .i64 (stepM x.Space m).Sp)).setCell ⟨gt, t * 7 + 2, none⟩ (.int .i64 (stepM x.Space m).Fp)).setCell ⟨gt, t * 7 + 3, none⟩ (.slice B0 (stepM x.Space m).Stack.length d0)).setCell ⟨gt, t * 7 + 4, none⟩ (.slice B1 (stepM x.Space m).Out.length d1)).setCell ⟨gt, t * 7 + 5, none⟩ (.int .i64 (stepM x.Space m).State)).setCell ⟨gt, t * 7 + 6, none⟩ (.int .i64 (stepM x.Space m).Value)) = w3 at hP3 ⊢
          have hbx : w3.heap[gp]? = some (.cells #[.slice A0 x.Space.Images.length c0, .slice A1 x.Space.Bases.length c1, .slice A2 x.Space.Entries.length c2, .slice (some ⟨gt, 0, none⟩) (x.Threads.set t (stepM x.Space m)).length c3, .int .i64 (t : Int), .int .i64 L0, .int .i64 x.Slice] 36 (0, 0)) := hP3.box
          clear p4 p5 p6 pf pl
          obtain ⟨p0, p1, p2, p3, p4, p5, p6, pf, pl⟩ := row7 hbx
          rw [List.length_set] at p3
          clear hbx
          have hwl : wrap64 (L0 - 1) = L0 - 1 := wrap64_small (by omega) (by omega)
          go_upto_region 11 with (fail)
          have hP4 := hP3.num (i := 5) (v := .int .i64 (L0 - 1)) (t := (t : Int)) (l := L0 - 1) (fun _ _ _ _ _ => rfl)
          generalize w3.setCell ⟨gp, 5, none⟩ (.int .i64 (L0 - 1)) = w4 at hP4 ⊢
          have hbx : w4.heap[gp]? = some (.cells #[.slice A0 x.Space.Images.length c0, .slice A1 x.Space.Bases.length c1, .slice A2 x.Space.Entries.length c2, .slice (some ⟨gt, 0, none⟩) (x.Threads.set t (stepM x.Space m)).length c3, .int .i64 (t : Int), .int .i64 (L0 - 1), .int .i64 x.Slice] 36 (0, 0)) := hP4.box
          clear p0 p1 p2 p3 p4 p5 p6 pf pl
          obtain ⟨p0, p1, p2, p3, p4, p5, p6, pf, pl⟩ := row7 hbx
          rw [List.length_set] at p3
          clear hbx
          by_cases hz : L0 - 1 = 0
          · have hL1 : L0 = 1 := by omega
            go_upto_region 13 with (fail)
            have hP5 := hP4.num (i := 5) (v := .int .i64 x.Slice) (t := (t : Int)) (l := x.Slice) (fun _ _ _ _ _ => rfl)
            generalize w4.setCell ⟨gp, 5, none⟩ (.int .i64 x.Slice) = w5 at hP5 ⊢
            have hbx : w5.heap[gp]? = some (.cells #[.slice A0 x.Space.Images.length c0, .slice A1 x.Space.Bases.length c1, .slice A2 x.Space.Entries.length c2, .slice (some ⟨gt, 0, none⟩) (x.Threads.set t (stepM x.Space m)).length c3, .int .i64 (t : Int), .int .i64 x.Slice, .int .i64 x.Slice] 36 (0, 0)) := hP5.box
            clear p0 p1 p2 p3 p4 p5 p6 pf pl
            obtain ⟨p0, p1, p2, p3, p4, p5, p6, pf, pl⟩ := row7 hbx
            rw [List.length_set] at p3
            clear hbx
            have hmt2 : ((t : Int) + 1).tmod (x.Threads.length : Int) = (((t + 1) % x.Threads.length : Nat) : Int) := by rw [show (t : Int) + 1 = ((t + 1 : Nat) : Int) from by omega]; exact rfl
            have hmt3 : ((t : Int) + 1) % (x.Threads.length : Int) = (((t + 1) % x.Threads.length : Nat) : Int) := by rw [show (t : Int) + 1 = ((t + 1 : Nat) : Int) from by omega]; exact rfl
            obtain ⟨t2, ht2⟩ : ∃ t2, (t + 1) % x.Threads.length = t2 := ⟨_, rfl⟩
            rw [ht2] at hmt2 hmt3
            go_upto_region 14 with (fail)
            have hP6 := hP5.num (i := 4) (v := .int .i64 (t2 : Int)) (t := (t2 : Int)) (l := x.Slice) (fun _ _ _ _ _ => rfl)
            generalize w5.setCell ⟨gp, 4, none⟩ (.int .i64 (t2 : Int)) = w6 at hP6 ⊢
            go_wp2_with (fail)
            refine bodyPost_ret (v := .int .i64 (t : Int)) (by simp [results, Try.results77, go_sem]) rfl ⟨by rw [HRES.out], ?_, S4, ?_⟩
            · rw [HRES.out]
              exact hv.turn hk2 htl
            · rw [HRES.out, turnAt_eq hl0]
              simp only [if_pos hz, ht2]
              exact hP6
          · have hL1 : ¬ L0 = 1 := by omega
            go_wp2_with (fail)
            refine bodyPost_ret (v := .int .i64 (t : Int)) (by simp [results, Try.results77, go_sem]) rfl ⟨by rw [HRES.out], ?_, S4, ?_⟩
            · rw [HRES.out]
              exact hv.turn hk2 htl
            · rw [HRES.out, turnAt_eq hl0]
              simp only [if_neg hz]
              exact hP4
        · rw [hA3] at p3
          have HA3 := Lib.hid hA3
          clear hA3
          obtain rfl : k = 0 := by omega
          rw [Nat.add_zero] at ht
          have hkp : True := trivial
          have htT : t = T := by rw [← ht, Nat.mod_eq_of_lt (by omega)]
          subst htT
          have hmodT1 : (t : Int).tmod (x.Threads.length : Int) = (t : Int) := Int.tmod_eq_of_lt (by omega) (by omega)
          have hmodT2 : (t : Int) % (x.Threads.length : Int) = (t : Int) := Int.emod_eq_of_lt (by omega) (by omega)
          have hl0 : (if decide (0 < 0) = true then x.Slice else x.Left) - 1 = x.Left - 1 := by rw [if_neg (by simp)]
          go_upto_region 9 with (fail)
          have hP1 : PSt B Y wr gp { x with Turn := (t : Int), Left := x.Left } A0 c0 A1 c1 A2 c2 A3 c3 S0 S3 := by rw [← hT]; exact HP.out
          obtain ⟨w1, hw1⟩ : ∃ w1, wr = w1 := ⟨_, rfl⟩
          rw [hw1] at hP1 ⊢
          clear hw1
          obtain ⟨L0, hL0⟩ : ∃ L0, x.Left = L0 := ⟨_, rfl⟩
          have hL01 : 1 ≤ L0 := by omega
          have hL02 : L0 ≤ 1000 := by omega
          rw [hL0] at hP1
          have hl0 : (if decide (0 < 0) = true then x.Slice else x.Left) - 1 = L0 - 1 := by rw [hl0, hL0]
          clear hL0 hT hmodT1 hmodT2 p0 p1 p2 p3 p4 p5 p6 pf pl
          clear HP hG hE q0 q1 q2 q3 q4 q5 q6 hgl hgtp hfr HTU hkp hmod1 hmod2 hk0 ht hkn hlt
          have HS0 := Lib.hid hs
          have HMK := Lib.hid hmk
          have hbx : w1.heap[gp]? = some (.cells #[.slice A0 x.Space.Images.length c0, .slice A1 x.Space.Bases.length c1, .slice A2 x.Space.Entries.length c2, .slice A3 x.Threads.length c3, .int .i64 (t : Int), .int .i64 L0, .int .i64 x.Slice] 36 (0, 0)) := hP1.box
          have hdr : Gro w1 w1.drew := (Gro.refl w1).drew
          obtain ⟨f0, f1, f2⟩ := leavesSpace hP1.sp.read
          obtain ⟨gt, A4, c4, A5, c5, rfl, hgl, hgtp, hfr, ⟨q0, q1, q2, q3, q4, q5, q6⟩, o3, o4, hput⟩ := hP1.thread hmt
          have HPUT := Lib.hid hput
          clear hs hmk hput hP1
          obtain ⟨p0, p1, p2, p3, p4, p5, p6, pf, pl⟩ := row7 hbx
          clear hbx
          refine region_T (fun w' => w'.cell? ⟨gp, 0, none⟩ = some (.slice A0 x.Space.Images.length c0) ∧ w'.cell? ⟨gp, 1, none⟩ = some (.slice A1 x.Space.Bases.length c1) ∧ w'.cell? ⟨gp, 2, none⟩ = some (.slice A2 x.Space.Entries.length c2) ∧ w'.cell? ⟨gp, 3, none⟩ = some (.slice (some ⟨gt, 0, none⟩) x.Threads.length c3) ∧ w'.cell? ⟨gt, t * 7, none⟩ = some (.int .i64 m.Pc) ∧ w'.cell? ⟨gt, t * 7 + 1, none⟩ = some (.int .i64 m.Sp) ∧ w'.cell? ⟨gt, t * 7 + 2, none⟩ = some (.int .i64 m.Fp) ∧ w'.cell? ⟨gt, t * 7 + 3, none⟩ = some (.slice A4 m.Stack.length c4) ∧ w'.cell? ⟨gt, t * 7 + 4, none⟩ = some (.slice A5 m.Out.length c5) ∧ w'.cell? ⟨gt, t * 7 + 5, none⟩ = some (.int .i64 m.State) ∧ w'.cell? ⟨gt, t * 7 + 6, none⟩ = some (.int .i64 m.Value)) 18 (by kernel_rfl) (And.intro (drew_keeps p0) (And.intro (drew_keeps p1) (And.intro (drew_keeps p2) (And.intro (drew_keeps p3) (And.intro (drew_keeps q0) (And.intro (drew_keeps q1) (And.intro (drew_keeps q2) (And.intro (drew_keeps q3) (And.intro (drew_keeps q4) (And.intro (drew_keeps q5) (drew_keeps q6))))))))))) (fun hH => ?_)
          have f0 := Ty.up _ f0 hdr
          have f1 := Ty.up _ f1 hdr
          have f2 := Ty.up _ f2 hdr
          have o3 := Ty.up _ o3 hdr
          have o4 := Ty.up _ o4 hdr
          clear p0 p1 p2 p3 q0 q1 q2 q3 q4 q5 q6
          have hsz9 : w1.heap.size ≤ w1.drew.heap.size := hdr.size
          generalize w1.drew = wx at hdr hH f0 f1 f2 o3 o4 hsz9 ⊢
          obtain ⟨p0, p1, p2, p3, q0, q1, q2, q3, q4, q5, q6⟩ := id hH
          have hfrx : ∀ j, wx.frozen? ⟨gt, j, none⟩ = false := fun j => (grow_frz hdr hgl).trans (hfr j)
          have hgx : gt < wx.heap.size := by omega
          refine AnyT.take (i := 0) (cs := [18]) rfl (by kernel_rfl) (by kernel_rfl) (by kernel_rfl) (by kernel_rfl) rfl (by kernel_rfl) (fun _ _ _ h => h) hH (by rfl) (by intro w hSw; (try dsimp only at hSw); go_simp; (try with_reducible rfl)) ?_
          try simp only [Act.put, List.setIfInBounds_toArray, List.set_cons_zero, List.set_cons_succ]
          refine AnyT.take (i := 1) (cs := [18]) rfl (by kernel_rfl) (by kernel_rfl) (by kernel_rfl) (by kernel_rfl) rfl (by kernel_rfl) (fun _ _ _ h => h) hH (by rfl) (by intro w hSw; (try dsimp only at hSw); go_simp; (try with_reducible rfl)) ?_
          try simp only [Act.put, List.setIfInBounds_toArray, List.set_cons_zero, List.set_cons_succ]
          refine AnyT.take (i := 2) (cs := [18]) rfl (by kernel_rfl) (by kernel_rfl) (by kernel_rfl) (by kernel_rfl) rfl (by kernel_rfl) (fun _ _ _ h => h) hH (by rfl) (by intro w hSw; (try dsimp only at hSw); go_simp; (try with_reducible rfl)) ?_
          try simp only [Act.put, List.setIfInBounds_toArray, List.set_cons_zero, List.set_cons_succ]
          refine AnyT.take (i := 3) (cs := [18]) rfl (by kernel_rfl) (by kernel_rfl) (by kernel_rfl) (by kernel_rfl) rfl (by kernel_rfl) (fun _ _ _ h => h) hH (by rfl) (by intro w hSw; (try dsimp only at hSw); go_simp; (try with_reducible rfl)) ?_
          try simp only [Act.put, List.setIfInBounds_toArray, List.set_cons_zero, List.set_cons_succ]
          refine AnyT.take (i := 4) (cs := [18]) rfl (by kernel_rfl) (by kernel_rfl) (by kernel_rfl) (by kernel_rfl) rfl (by kernel_rfl) (fun _ _ _ h => h) hH (by rfl) (by intro w hSw; (try dsimp only at hSw); go_simp; (try with_reducible rfl)) ?_
          try simp only [Act.put, List.setIfInBounds_toArray, List.set_cons_zero, List.set_cons_succ]
          refine AnyT.take (i := 5) (cs := [18]) rfl (by kernel_rfl) (by kernel_rfl) (by kernel_rfl) (by kernel_rfl) rfl (by kernel_rfl) (fun _ _ _ h => h) hH (by rfl) (by intro w hSw; (try dsimp only at hSw); go_simp; (try with_reducible rfl)) ?_
          try simp only [Act.put, List.setIfInBounds_toArray, List.set_cons_zero, List.set_cons_succ]
          refine AnyT.take (i := 6) (cs := [18]) rfl (by kernel_rfl) (by kernel_rfl) (by kernel_rfl) (by kernel_rfl) rfl (by kernel_rfl) (fun _ _ _ h => h) hH (by rfl) (by intro w hSw; (try dsimp only at hSw); go_simp; (try with_reducible rfl)) ?_
          try simp only [Act.put, List.setIfInBounds_toArray, List.set_cons_zero, List.set_cons_succ]
          refine AnyT.take (i := 7) (cs := [18]) rfl (by kernel_rfl) (by kernel_rfl) (by kernel_rfl) (by kernel_rfl) rfl (by kernel_rfl) (fun _ _ _ h => h) hH (by rfl) (by intro w hSw; (try dsimp only at hSw); go_simp; (try with_reducible rfl)) ?_
          try simp only [Act.put, List.setIfInBounds_toArray, List.set_cons_zero, List.set_cons_succ]
          refine AnyT.take (i := 8) (cs := [18]) rfl (by kernel_rfl) (by kernel_rfl) (by kernel_rfl) (by kernel_rfl) rfl (by kernel_rfl) (fun _ _ _ h => h) hH (by rfl) (by intro w hSw; (try dsimp only at hSw); go_simp; (try with_reducible rfl)) ?_
          try simp only [Act.put, List.setIfInBounds_toArray, List.set_cons_zero, List.set_cons_succ]
          refine AnyT.take (i := 9) (cs := [18]) rfl (by kernel_rfl) (by kernel_rfl) (by kernel_rfl) (by kernel_rfl) rfl (by kernel_rfl) (fun _ _ _ h => h) hH (by rfl) (by intro w hSw; (try dsimp only at hSw); go_simp; (try with_reducible rfl)) ?_
          try simp only [Act.put, List.setIfInBounds_toArray, List.set_cons_zero, List.set_cons_succ]
          refine AnyT.take (i := 10) (cs := [18]) rfl (by kernel_rfl) (by kernel_rfl) (by kernel_rfl) (by kernel_rfl) rfl (by kernel_rfl) (fun _ _ _ h => h) hH (by rfl) (by intro w hSw; (try dsimp only at hSw); go_simp; (try with_reducible rfl)) ?_
          try simp only [Act.put, List.setIfInBounds_toArray, List.set_cons_zero, List.set_cons_succ]
          refine AnyT.take (i := 11) (cs := [18]) rfl (by kernel_rfl) (by kernel_rfl) (by kernel_rfl) (by kernel_rfl) rfl (by kernel_rfl) (fun _ _ _ h => h) hH (by rfl) (by intro w hSw; (try dsimp only at hSw); go_simp; (try with_reducible rfl)) ?_
          try simp only [Act.put, List.setIfInBounds_toArray, List.set_cons_zero, List.set_cons_succ]
          refine AnyT.take (i := 12) (cs := [18]) rfl (by kernel_rfl) (by kernel_rfl) (by kernel_rfl) (by kernel_rfl) rfl (by kernel_rfl) (fun _ _ _ h => h) hH (by rfl) (by intro w hSw; (try dsimp only at hSw); go_simp; (try with_reducible rfl)) ?_
          try simp only [Act.put, List.setIfInBounds_toArray, List.set_cons_zero, List.set_cons_succ]
          refine AnyT.take (i := 13) (cs := [18]) rfl (by kernel_rfl) (by kernel_rfl) (by kernel_rfl) (by kernel_rfl) rfl (by kernel_rfl) (fun _ _ _ h => h) hH (by rfl) (by intro w hSw; (try dsimp only at hSw); go_simp; (try with_reducible rfl)) ?_
          try simp only [Act.put, List.setIfInBounds_toArray, List.set_cons_zero, List.set_cons_succ]
          refine AnyT.take (i := 14) (cs := [18]) rfl (by kernel_rfl) (by kernel_rfl) (by kernel_rfl) (by kernel_rfl) rfl (by kernel_rfl) (fun _ _ _ h => h) hH (by rfl) (by intro w hSw; (try dsimp only at hSw); go_simp; (try with_reducible rfl)) ?_
          try simp only [Act.put, List.setIfInBounds_toArray, List.set_cons_zero, List.set_cons_succ]
          refine AnyT.take (i := 15) (cs := [18]) rfl (by kernel_rfl) (by kernel_rfl) (by kernel_rfl) (by kernel_rfl) rfl (by kernel_rfl) (fun _ _ _ h => h) hH (by rfl) (by intro w hSw; (try dsimp only at hSw); go_simp; (try with_reducible rfl)) ?_
          try simp only [Act.put, List.setIfInBounds_toArray, List.set_cons_zero, List.set_cons_succ]
          refine AnyT.one (i := 16) (by kernel_rfl) rfl (fun K hK => ?_)
          go_simp
          go_at_call 107
          refine (step_s (s := x.Space) (m := m) (N := N) f0 f1 f2 o3 o4 HIMG.out.1 HIMG.out.2.1 HIMG.out.2.2 HMK.out hN HS0.out).mono ?_
          rintro e w2 ⟨⟨B0, d0, B1, d1, rfl, hF2, hg2⟩, hk2⟩
          have hor : _ ∨ ((stepM x.Space m) = { m with State := 2 } ∧ B0 = A4 ∧ d0 = c4 ∧ B1 = A5 ∧ d1 = c5) := Or.inl (fresh_lo hF2 hsz9)
          have p0 := grow_cell hg2 p0
          have p1 := grow_cell hg2 p1
          have p2 := grow_cell hg2 p2
          have p3 := grow_cell hg2 p3
          have q0 := grow_cell hg2 q0
          have q1 := grow_cell hg2 q1
          have q2 := grow_cell hg2 q2
          have q3 := grow_cell hg2 q3
          have q4 := grow_cell hg2 q4
          have q5 := grow_cell hg2 q5
          have q6 := grow_cell hg2 q6
          have hH2 := (And.intro p0 (And.intro p1 (And.intro p2 (And.intro p3 (And.intro q0 (And.intro q1 (And.intro q2 (And.intro q3 (And.intro q4 (And.intro q5 q6))))))))))
          refine hK.out _ _ hH2 (fun hI => ?_)
          clear hK hH
          have hH := hI
          try simp only [Act.put, List.setIfInBounds_toArray, List.set_cons_zero, List.set_cons_succ]
          obtain ⟨S4, hP3⟩ := HPUT.out w2 (hdr.trans hg2) _ B0 d0 B1 d1 hor
          have hfr2 : ∀ j, w2.frozen? ⟨gt, j, none⟩ = false := fun j => (grow_frz hg2 hgx).trans (hfrx j)
          have hg2l : gt < w2.heap.size := by have := hg2.size; omega
          clear hfrx hfr HPUT
          refine AnyT.take (i := 17) (cs := [18]) rfl (by kernel_rfl) (by kernel_rfl) (by kernel_rfl) (by kernel_rfl) rfl (by kernel_rfl) (fun _ _ _ h => h) hH (by rfl) (by intro w hSw; (try dsimp only at hSw); go_simp; (try with_reducible rfl)) ?_
          try simp only [Act.put, List.setIfInBounds_toArray, List.set_cons_zero, List.set_cons_succ]
          refine AnyT.last (by kernel_rfl) rfl (by kernel_rfl) (fun K hK => ?_)
          go_simp
          refine hK.out _ _ ?_
          clear hK hH hH2 hI p0 p1 p2 p3 q0 q1 q2 q3 q4 q5 q6
          try simp only [Act.put, List.setIfInBounds_toArray, List.set_cons_zero, List.set_cons_succ]
          generalize (((((((w2.setCell ⟨gt, t * 7, none⟩ (.int .i64 (stepM x.Space m).Pc)).setCell ⟨gt, t * 7 + 1, none⟩ (.int .i64 (stepM x.Space m).Sp)).setCell ⟨gt, t * 7 + 2, none⟩ (.int .i64 (stepM x.Space m).Fp)).setCell ⟨gt, t * 7 + 3, none⟩ (.slice B0 (stepM x.Space m).Stack.length d0)).setCell ⟨gt, t * 7 + 4, none⟩ (.slice B1 (stepM x.Space m).Out.length d1)).setCell ⟨gt, t * 7 + 5, none⟩ (.int .i64 (stepM x.Space m).State)).setCell ⟨gt, t * 7 + 6, none⟩ (.int .i64 (stepM x.Space m).Value)) = w3 at hP3 ⊢
          have hbx : w3.heap[gp]? = some (.cells #[.slice A0 x.Space.Images.length c0, .slice A1 x.Space.Bases.length c1, .slice A2 x.Space.Entries.length c2, .slice (some ⟨gt, 0, none⟩) (x.Threads.set t (stepM x.Space m)).length c3, .int .i64 (t : Int), .int .i64 L0, .int .i64 x.Slice] 36 (0, 0)) := hP3.box
          clear p4 p5 p6 pf pl
          obtain ⟨p0, p1, p2, p3, p4, p5, p6, pf, pl⟩ := row7 hbx
          rw [List.length_set] at p3
          clear hbx
          have hwl : wrap64 (L0 - 1) = L0 - 1 := wrap64_small (by omega) (by omega)
          go_upto_region 11 with (fail)
          have hP4 := hP3.num (i := 5) (v := .int .i64 (L0 - 1)) (t := (t : Int)) (l := L0 - 1) (fun _ _ _ _ _ => rfl)
          generalize w3.setCell ⟨gp, 5, none⟩ (.int .i64 (L0 - 1)) = w4 at hP4 ⊢
          have hbx : w4.heap[gp]? = some (.cells #[.slice A0 x.Space.Images.length c0, .slice A1 x.Space.Bases.length c1, .slice A2 x.Space.Entries.length c2, .slice (some ⟨gt, 0, none⟩) (x.Threads.set t (stepM x.Space m)).length c3, .int .i64 (t : Int), .int .i64 (L0 - 1), .int .i64 x.Slice] 36 (0, 0)) := hP4.box
          clear p0 p1 p2 p3 p4 p5 p6 pf pl
          obtain ⟨p0, p1, p2, p3, p4, p5, p6, pf, pl⟩ := row7 hbx
          rw [List.length_set] at p3
          clear hbx
          by_cases hz : L0 - 1 = 0
          · have hL1 : L0 = 1 := by omega
            go_upto_region 13 with (fail)
            have hP5 := hP4.num (i := 5) (v := .int .i64 x.Slice) (t := (t : Int)) (l := x.Slice) (fun _ _ _ _ _ => rfl)
            generalize w4.setCell ⟨gp, 5, none⟩ (.int .i64 x.Slice) = w5 at hP5 ⊢
            have hbx : w5.heap[gp]? = some (.cells #[.slice A0 x.Space.Images.length c0, .slice A1 x.Space.Bases.length c1, .slice A2 x.Space.Entries.length c2, .slice (some ⟨gt, 0, none⟩) (x.Threads.set t (stepM x.Space m)).length c3, .int .i64 (t : Int), .int .i64 x.Slice, .int .i64 x.Slice] 36 (0, 0)) := hP5.box
            clear p0 p1 p2 p3 p4 p5 p6 pf pl
            obtain ⟨p0, p1, p2, p3, p4, p5, p6, pf, pl⟩ := row7 hbx
            rw [List.length_set] at p3
            clear hbx
            have hmt2 : ((t : Int) + 1).tmod (x.Threads.length : Int) = (((t + 1) % x.Threads.length : Nat) : Int) := by rw [show (t : Int) + 1 = ((t + 1 : Nat) : Int) from by omega]; exact rfl
            have hmt3 : ((t : Int) + 1) % (x.Threads.length : Int) = (((t + 1) % x.Threads.length : Nat) : Int) := by rw [show (t : Int) + 1 = ((t + 1 : Nat) : Int) from by omega]; exact rfl
            obtain ⟨t2, ht2⟩ : ∃ t2, (t + 1) % x.Threads.length = t2 := ⟨_, rfl⟩
            rw [ht2] at hmt2 hmt3
            go_upto_region 14 with (fail)
            have hP6 := hP5.num (i := 4) (v := .int .i64 (t2 : Int)) (t := (t2 : Int)) (l := x.Slice) (fun _ _ _ _ _ => rfl)
            generalize w5.setCell ⟨gp, 4, none⟩ (.int .i64 (t2 : Int)) = w6 at hP6 ⊢
            go_wp2_with (fail)
            refine bodyPost_ret (v := .int .i64 (t : Int)) (by simp [results, Try.results77, go_sem]) rfl ⟨by rw [HRES.out], ?_, S4, ?_⟩
            · rw [HRES.out]
              exact hv.turn hk2 htl
            · rw [HRES.out, turnAt_eq hl0]
              simp only [if_pos hz, ht2]
              exact hP6
          · have hL1 : ¬ L0 = 1 := by omega
            go_wp2_with (fail)
            refine bodyPost_ret (v := .int .i64 (t : Int)) (by simp [results, Try.results77, go_sem]) rfl ⟨by rw [HRES.out], ?_, S4, ?_⟩
            · rw [HRES.out]
              exact hv.turn hk2 htl
            · rw [HRES.out, turnAt_eq hl0]
              simp only [if_neg hz]
              exact hP4
      · have hE2 := hE.out
        rw [hfk, turnGo_skip hmt' hs] at hE2
        have HE2 := Lib.hid hE2
        clear hE2 hmt' hfk
        go_wp2_with (fail)
        go_roundw
        case measure => (simp [intOf]; try omega)
        case rel => exact ⟨k + 1, by simp, by omega, hG, HE2⟩
    · have hkn2 : ¬ ((k : Int) < (x.Threads.length : Int)) := by omega
      have hE2 := hE.out
      rw [show x.Threads.length - k = 0 from by omega] at hE2
      have HRES := Lib.hid (show turnP x = (x, -1) from hE2.symm)
      clear hE2
      go_wp2_with (fail)
      exact bodyPost_ret (v := .int .i64 (-1)) (by simp [results, Try.results77, go_sem]) rfl ⟨by rw [HRES.out], by rw [HRES.out]; exact hv.up, S3, by rw [HRES.out]; exact HP.out⟩
end Go.Proofs.Ytbhobjepjaeffaa
namespace Go.Proofs.Ytbhobjepjaeffaa
open Go.RowKit
theorem cntL_le {α : Type} {f g : α → Nat} {k : Nat} (h : ∀ x, f x ≤ k * (1 + g x)) (xs : List α) : cntL f xs ≤ k * szL g xs := by
  unfold cntL szL
  induction xs with
  | nil => simp
  | cons x xs ih =>
    simp only [List.map_cons, List.sum_cons, List.length_cons]
    have h1 := h x
    rw [Nat.mul_add] at *
    have e1 : k * (xs.length + 1) = k * xs.length + k := by rw [Nat.mul_add, Nat.mul_one]
    have e2 : k * (g x + (xs.map g).sum) = k * g x + k * (xs.map g).sum := Nat.mul_add _ _ _
    omega
theorem cntProcess_sz (x : DProcess) : cntProcess x ≤ 5 * szProcess x := by
  have hm := cntL_le (f := cntEMachine) (g := szMachine) (k := 5) (fun m => by unfold cntEMachine szMachine; omega) x.Threads
  have hi := cntL_le (f := cntEImage) (g := szImage) (k := 3) (fun m => by unfold cntEImage szImage szL cntSymbolS; omega) x.Space.Images
  unfold cntProcess cntSpace cntMachineS cntImageS szProcess szSpace
  omega
end Go.Proofs.Ytbhobjepjaeffaa
namespace Go.Proofs.Ytbhobjepjaeffaa
open Go.RowKit
/-- lengths behind some instructions' parts -/
def Len (k : Nat) (m m' : DMachine) : Prop := m'.Stack.length = m.Stack.length ∧ m'.Out.length ≤ m.Out.length + k
theorem Len.refl (m : DMachine) : Len 0 m m := ⟨rfl, Nat.le_refl _⟩
theorem Len.trans {j k : Nat} {a b c : DMachine} (h1 : Len j a b) (h2 : Len k b c) : Len (j + k) a c := ⟨h2.1.trans h1.1, by have := h1.2; have := h2.2; omega⟩
theorem len_push {m m' : DMachine} {v : Int} (h : cPush m v = some m') : Len 0 m m' := by
  unfold cPush at h
  split at h
  · injection h with h
    subst h
    exact ⟨by simp, Nat.le_refl _⟩
  · cases h
theorem len_put {m m' : DMachine} {a v : Int} (h : cPut m a v = some m') : Len 0 m m' := by
  unfold cPut at h
  split at h
  · injection h with h
    subst h
    exact ⟨by simp, Nat.le_refl _⟩
  · cases h
theorem len_pop {m : DMachine} {p : DMachine × Int} (h : cPop m = some p) : Len 0 m p.1 := by
  have h1 := cPop_is (m1 := p.1) (v := p.2) h
  rw [h1]
  exact ⟨rfl, Nat.le_refl _⟩
theorem len_drop : ∀ (n : Nat) {m m' : DMachine}, cDrop n m = some m' → Len 0 m m'
  | 0, m, m', h => by injection h with h; subst h; exact Len.refl _
  | n + 1, m, m', h => by
    obtain ⟨p, hp, h2⟩ := Option.bind_eq_some_iff.1 h
    exact (len_pop hp).trans (len_drop n h2)
theorem len_zeros : ∀ (n : Nat) {m m' : DMachine}, cZeros n m = some m' → Len 0 m m'
  | 0, m, m', h => by injection h with h; subst h; exact Len.refl _
  | n + 1, m, m', h => by
    obtain ⟨p, hp, h2⟩ := Option.bind_eq_some_iff.1 h
    exact (len_push hp).trans (len_zeros n h2)
theorem len_perform {es : List Int} {m m' : DMachine} {c a : Int} (h : performM es m c a = some m') : Len 1 m m' := by
  have up : ∀ {x y : DMachine}, Len 0 x y → Len 1 x y := fun h => ⟨h.1, by have := h.2; omega⟩
  unfold performM at h
  by_cases q0 : c = 0
  · rw [if_pos q0] at h
    exact up (len_push h)
  rw [if_neg q0] at h
  by_cases q1 : c = 1
  · rw [if_pos q1] at h
    obtain ⟨v, _, h2⟩ := Option.bind_eq_some_iff.1 h
    exact up (len_push h2)
  rw [if_neg q1] at h
  by_cases q3 : c = 3
  · rw [if_pos q3] at h
    obtain ⟨v, _, h2⟩ := Option.bind_eq_some_iff.1 h
    exact up (len_push h2)
  rw [if_neg q3] at h
  by_cases q2 : c = 2
  · rw [if_pos q2] at h
    obtain ⟨p, h1, h2⟩ := Option.bind_eq_some_iff.1 h
    exact up ((len_pop h1).trans (len_put h2))
  rw [if_neg q2] at h
  by_cases q4 : c = 4
  · rw [if_pos q4] at h
    obtain ⟨p, h1, h2⟩ := Option.bind_eq_some_iff.1 h
    exact up ((len_pop h1).trans (len_put h2))
  rw [if_neg q4] at h
  by_cases q10 : c = 10
  · rw [if_pos q10] at h
    injection h with h
    subst h
    exact up (Len.refl _)
  rw [if_neg q10] at h
  by_cases q11 : c = 11
  · rw [if_pos q11] at h
    obtain ⟨p, h1, h2⟩ := Option.map_eq_some_iff.1 h
    have h3 := len_pop h1
    subst h2
    split
    · exact up h3
    · exact up h3
  rw [if_neg q11] at h
  by_cases q12 : c = 12
  · rw [if_pos q12] at h
    obtain ⟨p, h1, h2⟩ := Option.bind_eq_some_iff.1 h
    obtain ⟨e, _, h4⟩ := Option.map_eq_some_iff.1 h2
    subst h4
    have h5 := len_push h1
    exact up ⟨h5.1, h5.2⟩
  rw [if_neg q12] at h
  by_cases q13 : c = 13
  · rw [if_pos q13] at h
    obtain ⟨p, h1, h2⟩ := Option.bind_eq_some_iff.1 h
    have h3 := len_zeros _ h2
    have h4 := len_push h1
    exact up ⟨h3.1.trans h4.1, Nat.le_trans h3.2 h4.2⟩
  rw [if_neg q13] at h
  by_cases q15 : c = 15
  · rw [if_pos q15] at h
    exact up (len_zeros _ h)
  rw [if_neg q15] at h
  by_cases q14 : c = 14
  · rw [if_pos q14] at h
    obtain ⟨p, h1, h⟩ := Option.bind_eq_some_iff.1 h
    obtain ⟨q, h2, h⟩ := Option.bind_eq_some_iff.1 h
    obtain ⟨r, h3, h⟩ := Option.bind_eq_some_iff.1 h
    obtain ⟨d, h4, h5⟩ := Option.bind_eq_some_iff.1 h
    have k1 := len_pop h1
    have k2 := len_pop h2
    have k3 := len_pop h3
    have k4 := len_drop _ h4
    have k5 := len_push h5
    exact up ⟨k5.1.trans (k4.1.trans (k3.1.trans (k2.1.trans k1.1))), Nat.le_trans k5.2 (Nat.le_trans k4.2 (Nat.le_trans k3.2 (Nat.le_trans k2.2 k1.2)))⟩
  rw [if_neg q14] at h
  by_cases q16 : c = 16
  · rw [if_pos q16] at h
    obtain ⟨p, h1, h⟩ := Option.bind_eq_some_iff.1 h
    obtain ⟨q, h2, h⟩ := Option.bind_eq_some_iff.1 h
    obtain ⟨r, h3, h⟩ := Option.bind_eq_some_iff.1 h
    obtain ⟨d, h4, h5⟩ := Option.bind_eq_some_iff.1 h
    have k1 := len_pop h1
    have k2 := len_drop _ h2
    have k3 := len_pop h3
    have k4 := len_drop _ h4
    have k5 := len_push h5
    exact up ⟨k5.1.trans (k4.1.trans (k3.1.trans (k2.1.trans k1.1))), Nat.le_trans k5.2 (Nat.le_trans k4.2 (Nat.le_trans k3.2 (Nat.le_trans k2.2 k1.2)))⟩
  rw [if_neg q16] at h
  by_cases q17 : c = 17
  · rw [if_pos q17] at h
    obtain ⟨p, h1, h2⟩ := Option.map_eq_some_iff.1 h
    have h3 := len_pop h1
    subst h2
    exact ⟨h3.1, by have := h3.2; simp; omega⟩
  rw [if_neg q17] at h
  obtain ⟨p, h1, h⟩ := Option.bind_eq_some_iff.1 h
  obtain ⟨q, h2, h3⟩ := Option.bind_eq_some_iff.1 h
  exact up (((len_pop h1).trans (len_pop h2)).trans (len_push h3))
theorem len_end {m m' : DMachine} (h : endM m = some m') : Len 0 m m' := by
  unfold endM at h
  split at h
  · obtain ⟨v, _, h2⟩ := Option.map_eq_some_iff.1 h
    subst h2
    exact ⟨rfl, Nat.le_refl _⟩
  · injection h with h
    subst h
    exact Len.refl _
theorem len_step (s : DSpace) (m : DMachine) : Len 1 m (stepM s m) := by
  have hs : Len 1 m { m with State := 2 } := ⟨rfl, Nat.le_add_right _ _⟩
  rw [stepM_fetch]
  split
  · cases hp : (performM s.Entries { m with Pc := m.Pc + ((fetchM s m.Pc).n : Int) } (fetchM s m.Pc).code (fetchM s m.Pc).arg).bind endM with
    | none => exact hs
    | some m' =>
      obtain ⟨q, h1, h2⟩ := Option.bind_eq_some_iff.1 hp
      have k1 := len_perform h1
      have k2 := len_end h2
      exact ⟨k2.1.trans k1.1, by have := k1.2; have := k2.2; show m'.Out.length ≤ m.Out.length + 1; have h5 : ({ m with Pc := m.Pc + ((fetchM s m.Pc).n : Int) } : DMachine).Out.length = m.Out.length := rfl; omega⟩
  · exact hs
theorem sz_step (s : DSpace) (m : DMachine) : szMachine (stepM s m) ≤ szMachine m + 1 := by
  have h := len_step s m
  have h1 := h.1
  have h2 := h.2
  unfold szMachine
  omega
theorem sum_set {α : Type} (f : α → Nat) : ∀ (xs : List α) (t : Nat) (x y : α), xs[t]? = some x → f y ≤ f x + 1 → ((xs.set t y).map f).sum ≤ (xs.map f).sum + 1
  | [], t, x, y, h, _ => by simp at h
  | a :: r, 0, x, y, h, hf => by
    simp at h
    subst h
    simp only [List.set_cons_zero, List.map_cons, List.sum_cons]
    omega
  | a :: r, t + 1, x, y, h, hf => by
    have := sum_set f r t x y (by simpa using h) hf
    simp only [List.set_cons_succ, List.map_cons, List.sum_cons]
    omega
theorem turnGo_sz (x : DProcess) : ∀ (f k : Nat), szProcess (turnGo x f k).1 ≤ szProcess x + 1 ∧ (turnGo x f k).1.Space = x.Space
  | 0, k => ⟨Nat.le_add_right _ _, rfl⟩
  | f + 1, k => by
    cases hm : x.Threads[(x.Turn.toNat + k) % x.Threads.length]? with
    | none =>
      have h : turnGo x (f + 1) k = (x, -1) := by rw [turnGo, hm]
      rw [h]
      exact ⟨Nat.le_add_right _ _, rfl⟩
    | some m =>
      by_cases hs : m.State = 0
      · rw [turnGo_hit hm hs]
        refine ⟨?_, rfl⟩
        have h1 := sum_set szMachine x.Threads _ m (stepM x.Space m) hm (sz_step x.Space m)
        show szSpace x.Space + szL szMachine (x.Threads.set _ (stepM x.Space m)) ≤ szSpace x.Space + szL szMachine x.Threads + 1
        unfold szL
        rw [List.length_set]
        omega
      · rw [turnGo_skip hm hs]
        exact turnGo_sz x f (k + 1)
theorem turnP_sz (x : DProcess) : szProcess (turnP x).1 ≤ szProcess x + 1 := (turnGo_sz x _ _).1
theorem process_lens2 (x : DProcess) : x.Space.Images.length ≤ szProcess x ∧ x.Space.Bases.length ≤ szProcess x ∧ x.Space.Entries.length ≤ szProcess x ∧ x.Threads.length ≤ szProcess x := by
  unfold szProcess szSpace szL
  omega
theorem szL_mem {α : Type} (f : α → Nat) {xs : List α} {x : α} (h : x ∈ xs) : f x ≤ szL f xs := by
  obtain ⟨j, hj⟩ := List.getElem?_of_mem h
  exact szL_elem f hj
/-- a good process, its numbers read -/
theorem PInv.mk' {x : DProcess} {N : Nat} (h : procOk x = true) (hsz : szProcess x ≤ N) (hm : ∀ m ∈ x.Threads, I64 m.Pc ∧ I64 m.Sp ∧ I64 m.Fp ∧ I64 m.State ∧ I64 m.Value) : PInv N x := by
  unfold procOk at h
  simp only [Bool.and_eq_true, List.all_eq_true] at h
  obtain ⟨⟨⟨⟨⟨h1, h2⟩, h3⟩, h4⟩, h5⟩, h6⟩ := h
  have h2 := btw_iff.1 h2
  have h3 := btw_iff.1 h3
  have h4 := btw_iff.1 h4
  have h5 := btw_iff.1 h5
  refine ⟨h1, by omega, by omega, h3.1, by omega, h5.1, h5.2, h4.2, fun m hmm => ?_⟩
  have h7 := h6 m hmm
  unfold machineOk at h7
  simp only [Bool.and_eq_true, decide_eq_true_eq] at h7
  obtain ⟨p0, p1, p2, p3, p4⟩ := hm m hmm
  have h8 := szL_mem szMachine hmm
  refine ⟨h7.1.1, ?_, p0, p1, p2, p3, p4⟩
  unfold szProcess at hsz
  unfold szMachine at h8
  unfold szMachine at hsz
  omega
end Go.Proofs.Ytbhobjepjaeffaa
namespace Go.Proofs.Ytbhobjepjaeffaa
open Go.RowKit
theorem alloc2 (w : World) (ca cb : Array Value) (ta tb : TypeId) : ((w.alloc (.cells ca ta)).alloc (.cells cb tb)).heap[w.heap.size]? = some (.cells ca ta (0, 0)) ∧ ((w.alloc (.cells ca ta)).alloc (.cells cb tb)).heap[w.heap.size + 1]? = some (.cells cb tb (0, 0)) := by
  refine ⟨grow_blk (heap_alloc_new w _) (by (repeat (first | with_reducible exact Gro.refl _ | with_reducible exact Gro.refl_drew _ _ _ | with_reducible exact Gro.refl_drewN _ _ _ _ | assumption | with_reducible apply Gro.more | with_reducible apply Gro.alloc | with_reducible apply Gro.drew | with_reducible apply Gro.drewN)); done), ?_⟩
  have h := heap_alloc_new (w.alloc (.cells ca ta)) (.cells cb tb)
  rw [World.size_alloc] at h
  exact h
theorem threads_I64 {xs : List DMachine} {w : World} {B : Nat} {v : Value} (h : (tMachine.sl 80).R w B [v] xs) : ∀ m ∈ xs, I64 m.Pc ∧ I64 m.Sp ∧ I64 m.Fp ∧ I64 m.State ∧ I64 m.Value := by
  intro m hm
  obtain ⟨k, hk⟩ := List.getElem?_of_mem hm
  obtain ⟨A, c, rfl, _⟩ := sl_at h
  obtain ⟨g, off, y, ec, _, _, hy, hR, _⟩ := elem_at h (k := k) (List.getElem?_eq_some_iff.1 hk).1
  have : y = m := by rw [hk] at hy; injection hy with hy; exact hy.symm
  subst this
  obtain ⟨_, _, _, _, _, p0, p1, p2, _, _, p5, p6⟩ := tMachine_R hR
  exact ⟨p0, p1, p2, p5, p6⟩
theorem PSt.make {B : List (Nat × Obj)} {W1 W2 : World} {x : DProcess} {A0 A1 A2 A3 : Option Addr} {c0 c1 c2 c3 : Nat} (hF : Fresh tProcess W1 W2 [.slice A0 x.Space.Images.length c0, .slice A1 x.Space.Bases.length c1, .slice A2 x.Space.Entries.length c2, .slice A3 x.Threads.length c3, .int .i64 x.Turn, .int .i64 x.Left, .int .i64 x.Slice] x) (hg : Gro W1 W2) (hB : ∀ p ∈ B, W1.heap[p.1]? = some p.2) :
    ∃ S0 S3, PSt B W1 (W2.alloc (.cells #[.slice A0 x.Space.Images.length c0, .slice A1 x.Space.Bases.length c1, .slice A2 x.Space.Entries.length c2, .slice A3 x.Threads.length c3, .int .i64 x.Turn, .int .i64 x.Left, .int .i64 x.Slice] 36)) W2.heap.size x A0 c0 A1 c1 A2 c2 A3 c3 S0 S3 := by
  obtain ⟨S9, hO, hN, hL⟩ := hF
  have hlt := Ty.ltO _ hO
  obtain ⟨A0', c0', S0, A1', c1', S1, A2', c2', S2, A3', c3', S3, hcl, rfl, h0, h1, h2, h3, _, _, _⟩ := tProcess_O hO
  simp only [List.cons.injEq, Value.slice.injEq, true_and, and_true] at hcl
  obtain ⟨⟨rfl, rfl⟩, ⟨rfl, rfl⟩, ⟨rfl, rfl⟩, ⟨rfl, rfl⟩⟩ := hcl
  rw [List.nodup_append] at hN
  obtain ⟨n1, n2, n3⟩ := hN
  have hgA : Gro W2 (W2.alloc (.cells #[.slice A0 x.Space.Images.length c0, .slice A1 x.Space.Bases.length c1, .slice A2 x.Space.Entries.length c2, .slice A3 x.Threads.length c3, .int .i64 x.Turn, .int .i64 x.Left, .int .i64 x.Slice] 36)) := (Gro.refl _).alloc _
  have hw2 := hg.size
  refine ⟨S0 ++ S1 ++ S2, S3, heap_alloc_new W2 _, Has.gro ⟨tSpace_mkOd h0 h1 h2, n1⟩ hgA, Has.gro ⟨h3, n2⟩ hgA, fun b hb hm => n3 b hb b hm rfl, fun hm => ?_, fun hm => ?_, hg.trans hgA, hw2, fun b hb => hL b (List.mem_append_left _ hb), fun b hb => hL b (List.mem_append_right _ hb), fun p hp => ?_⟩
  · have := hlt _ (List.mem_append_left _ hm); omega
  · have := hlt _ (List.mem_append_right _ hm); omega
  · have h1 := hB p hp
    have hl := (Array.getElem?_eq_some_iff.1 h1).1
    refine ⟨grow_blk (grow_blk h1 hg) hgA, by omega, fun hm => ?_, fun hm => ?_⟩
    · have := hL _ (List.mem_append_left _ hm); omega
    · have := hL _ (List.mem_append_right _ hm); omega
/-- the process as a whole -/
theorem PSt.whole {B : List (Nat × Obj)} {Y W : World} {gp : Nat} {x : DProcess} {A0 A1 A2 A3 : Option Addr} {c0 c1 c2 c3 : Nat} {S0 S3 : List Nat} (h : PSt B Y W gp x A0 c0 A1 c1 A2 c2 A3 c3 S0 S3) (ht : I64 x.Turn) (hl : I64 x.Left) (hs : I64 x.Slice) :
    Has tProcess W [.slice A0 x.Space.Images.length c0, .slice A1 x.Space.Bases.length c1, .slice A2 x.Space.Entries.length c2, .slice A3 x.Threads.length c3, .int .i64 x.Turn, .int .i64 x.Left, .int .i64 x.Slice] x (S0 ++ S3) ∧ (∀ b ∈ S0 ++ S3, Y.heap.size ≤ b) ∧ ∀ p ∈ B, p.1 ∉ S0 ++ S3 := by
  refine ⟨⟨tProcess_mkOd h.sp.1 h.th.1 ht hl hs, List.nodup_append.2 ⟨h.sp.2, h.th.2, fun a ha b hb he => h.dis a ha (he ▸ hb)⟩⟩, fun b hb => ?_, fun p hp hm => ?_⟩
  · rcases List.mem_append.1 hb with h1 | h1
    · exact h.l0 b h1
    · exact h.l3 b h1
  · obtain ⟨_, _, h3, h4⟩ := h.kb p hp
    rcases List.mem_append.1 hm with h1 | h1
    · exact h3 h1
    · exact h4 h1
end Go.Proofs.Ytbhobjepjaeffaa
namespace Go.Proofs.Ytbhobjepjaeffaa
open Go.RowKit
def runGo : Nat → DProcess → List Int → DProcess × List Int
  | 0, x, ts => (x, ts)
  | f + 1, x, ts => if (turnP x).2 < 0 then ((turnP x).1, ts) else runGo f (turnP x).1 (ts ++ [(turnP x).2])
def runP (x : DProcess) (limit : Int) : DProcess × List Int := if procOk x = true ∧ btw limit 0 3000 = true then runGo limit.toNat x [] else (x, [])
theorem runGo_sz : ∀ (f : Nat) (x : DProcess) (ts : List Int), szProcess (runGo f x ts).1 ≤ szProcess x + f ∧ (runGo f x ts).2.length ≤ ts.length + f
  | 0, x, ts => ⟨Nat.le_refl _, Nat.le_refl _⟩
  | f + 1, x, ts => by
    have h := turnP_sz x
    unfold runGo
    split
    · exact ⟨by show szProcess (turnP x).1 ≤ _; omega, by show ts.length ≤ _; omega⟩
    · have h2 := runGo_sz f (turnP x).1 (ts ++ [(turnP x).2])
      have h3 : (ts ++ [(turnP x).2]).length = ts.length + 1 := by simp
      omega
theorem runP_sz (x : DProcess) (limit : Int) : szProcess (runP x limit).1 ≤ szProcess x + 3000 ∧ (runP x limit).2.length ≤ 3000 := by
  unfold runP
  split
  · rename_i h
    have h1 := btw_iff.1 h.2
    have h2 := runGo_sz limit.toNat x []
    simp at h2
    omega
  · exact ⟨Nat.le_add_right _ _, Nat.zero_le _⟩
theorem turnGo_t (x : DProcess) : ∀ (f k : Nat), -1 ≤ (turnGo x f k).2 ∧ (turnGo x f k).2 ≤ x.Threads.length
  | 0, k => ⟨by show (-1 : Int) ≤ -1; omega, by show (-1 : Int) ≤ _; omega⟩
  | f + 1, k => by
    cases hm : x.Threads[(x.Turn.toNat + k) % x.Threads.length]? with
    | none =>
      have h : turnGo x (f + 1) k = (x, -1) := by rw [turnGo, hm]
      rw [h]
      exact ⟨by show (-1 : Int) ≤ -1; omega, by show (-1 : Int) ≤ _; omega⟩
    | some m =>
      by_cases hs : m.State = 0
      · rw [turnGo_hit hm hs]
        have h1 := (List.getElem?_eq_some_iff.1 hm).1
        exact ⟨by simp only; omega, by simp only; omega⟩
      · rw [turnGo_skip hm hs]
        exact turnGo_t x f (k + 1)
theorem turnP_t (x : DProcess) : -1 ≤ (turnP x).2 ∧ (turnP x).2 ≤ x.Threads.length := turnGo_t x _ _
section
variable {B : List (Nat × Obj)} {Y W W' : World} {gp : Nat} {x : DProcess} {A0 A1 A2 A3 : Option Addr} {c0 c1 c2 c3 : Nat} {S0 S3 : List Nat}
theorem PSt.drop {B' : List (Nat × Obj)} (h : PSt B Y W gp x A0 c0 A1 c1 A2 c2 A3 c3 S0 S3) (hs : ∀ p ∈ B', p ∈ B) : PSt B' Y W gp x A0 c0 A1 c1 A2 c2 A3 c3 S0 S3 :=
  ⟨h.box, h.sp, h.th, h.dis, h.g0, h.g3, h.gro, h.lg, h.l0, h.l3, fun p hp => h.kb p (hs p hp)⟩
/-- a list of the call's own grows: the process stands -/
theorem PSt.only {L : List Nat} (h : PSt B Y W gp x A0 c0 A1 c1 A2 c2 A3 c3 S0 S3) (ho : OnlyS L W W') (hL : ∀ b ∈ L, b ≠ gp ∧ b ∉ S0 ∧ b ∉ S3 ∧ Y.heap.size ≤ b ∧ ∀ p ∈ B, p.1 ≠ b) : PSt B Y W' gp x A0 c0 A1 c1 A2 c2 A3 c3 S0 S3 :=
  ⟨(ho.block gp (Array.getElem?_eq_some_iff.1 h.box).1 (fun hm => (hL gp hm).1 rfl)).trans h.box, h.sp.keep ho (fun b hb hm => (hL b hm).2.1 hb), h.th.keep ho (fun b hb hm => (hL b hm).2.2.1 hb), h.dis, h.g0, h.g3, ho.gro h.gro (fun b hb => (hL b hb).2.2.2.1), h.lg, h.l0, h.l3, fun p hp => by
    obtain ⟨h1, h2⟩ := h.kb p hp
    exact ⟨(ho.block p.1 (Array.getElem?_eq_some_iff.1 h1).1 (fun hm => (hL p.1 hm).2.2.2.2 p hp rfl)).trans h1, h2⟩⟩
/-- the blocks of a list, kept as they are -/
def objs (W : World) (L : List Nat) : List (Nat × Obj) := L.map fun b => (b, (W.heap[b]?).getD (.cells #[] 0 (0, 0)))
theorem PSt.beside {L : List Nat} (h : PSt B Y W gp x A0 c0 A1 c1 A2 c2 A3 c3 S0 S3) (hL : ∀ b ∈ L, b < W.heap.size ∧ b ≠ gp ∧ b ∉ S0 ∧ b ∉ S3) : PSt (objs W L ++ B) Y W gp x A0 c0 A1 c1 A2 c2 A3 c3 S0 S3 :=
  ⟨h.box, h.sp, h.th, h.dis, h.g0, h.g3, h.gro, h.lg, h.l0, h.l3, fun p hp => by
    rcases List.mem_append.1 hp with h1 | h1
    · obtain ⟨b, hb, rfl⟩ := List.mem_map.1 h1
      obtain ⟨q0, q1, q2, q3⟩ := hL b hb
      refine ⟨?_, q1, q2, q3⟩
      show W.heap[b]? = some ((W.heap[b]?).getD _)
      rw [Array.getElem?_eq_getElem q0]
      rfl
    · exact h.kb p h1⟩
theorem Has.beside {α : Type} {T : Ty α} {cs : List Value} {y : α} {L : List Nat} {x' : DProcess} {A0' A1' A2' A3' : Option Addr} {c0' c1' c2' c3' : Nat} {S0' S3' : List Nat} (hH : Has T W cs y L) (hP : PSt (objs W L ++ B) Y W' gp x' A0' c0' A1' c1' A2' c2' A3' c3' S0' S3') :
    Has T W' cs y L ∧ ∀ b ∈ L, b < W'.heap.size ∧ b ≠ gp ∧ b ∉ S0' ∧ b ∉ S3' := by
  have hk : ∀ b ∈ L, W'.heap[b]? = W.heap[b]? ∧ b ≠ gp ∧ b ∉ S0' ∧ b ∉ S3' := fun b hb => by
    obtain ⟨h1, h2, h3, h4⟩ := hP.kb (b, (W.heap[b]?).getD (.cells #[] 0 (0, 0))) (List.mem_append_left _ (List.mem_map.2 ⟨b, hb, rfl⟩))
    refine ⟨?_, h2, h3, h4⟩
    have hl := hH.lt b hb
    rw [h1]
    show some ((W.heap[b]?).getD _) = W.heap[b]?
    rw [Array.getElem?_eq_getElem hl]
    rfl
  refine ⟨⟨T.keepO hH.1 (fun b hb => (hk b hb).1), hH.2⟩, fun b hb => ⟨?_, (hk b hb).2⟩⟩
  have h1 := (hk b hb).1
  have hl := hH.lt b hb
  rw [Array.getElem?_eq_getElem hl] at h1
  exact (Array.getElem?_eq_some_iff.1 h1).1
end
def sliceLen : Value → Nat
  | .slice _ n _ => n
  | _ => 0
def RetProcL (p : DProcess × List Int) (w : World) (e : Ending) (w' : World) : Prop := ∃ A0 c0 A1 c1 A2 c2 A3 c3 A4 c4 S0 S1, e = .returned (.tuple #[.agg #[.slice A0 p.1.Space.Images.length c0, .slice A1 p.1.Space.Bases.length c1, .slice A2 p.1.Space.Entries.length c2, .slice A3 p.1.Threads.length c3, .int .i64 p.1.Turn, .int .i64 p.1.Left, .int .i64 p.1.Slice], .slice A4 p.2.length c4]) ∧
  Has tProcess w' [.slice A0 p.1.Space.Images.length c0, .slice A1 p.1.Space.Bases.length c1, .slice A2 p.1.Space.Entries.length c2, .slice A3 p.1.Threads.length c3, .int .i64 p.1.Turn, .int .i64 p.1.Left, .int .i64 p.1.Slice] p.1 S0 ∧ Has (intT.sl 3) w' [.slice A4 p.2.length c4] p.2 S1 ∧ (∀ b ∈ S0, b ∉ S1) ∧ (∀ b ∈ S0, w.heap.size ≤ b) ∧ (∀ b ∈ S1, w.heap.size ≤ b) ∧ Gro w w'
end Go.Proofs.Ytbhobjepjaeffaa
namespace Go.Proofs.Ytbhobjepjaeffaa
open Go.RowKit
set_option maxRecDepth 100000 in
set_option maxHeartbeats 3000000 in
theorem runP_i {x : DProcess} {limit : Int} {w : World} {A0 A1 A2 A3 : Option Addr} {c0 c1 c2 c3 : Nat} (h0 : (tImage.sl 96).R w w.heap.size [.slice A0 x.Space.Images.length c0] x.Space.Images) (h1 : (intT.sl 3).R w w.heap.size [.slice A1 x.Space.Bases.length c1] x.Space.Bases)
    (h2 : (intT.sl 3).R w w.heap.size [.slice A2 x.Space.Entries.length c2] x.Space.Entries) (h3 : (tMachine.sl 80).R w w.heap.size [.slice A3 x.Threads.length c3] x.Threads) (ht : I64 x.Turn) (hle : I64 x.Left) (hsl : I64 x.Slice) (hli : I64 limit) (hs : szProcess x ≤ 1099511600000) :
    Calls Try.prog 38 #[.agg #[.slice A0 x.Space.Images.length c0, .slice A1 x.Space.Bases.length c1, .slice A2 x.Space.Entries.length c2, .slice A3 x.Threads.length c3, .int .i64 x.Turn, .int .i64 x.Left, .int .i64 x.Slice], .int .i64 limit] w (RetProcL (runP x limit) w) := by
  have hG0 : Gro w ((w.alloc (.cells #[.slice A0 x.Space.Images.length c0, .slice A1 x.Space.Bases.length c1, .slice A2 x.Space.Entries.length c2, .slice A3 x.Threads.length c3, .int .i64 x.Turn, .int .i64 x.Left, .int .i64 x.Slice] 36)).alloc (.cells #[.slice none 0 0, .slice none 0 0, .slice none 0 0, .slice none 0 0, .int .i64 0, .int .i64 0, .int .i64 0] 36)) := (by repeat (first | with_reducible exact Gro.refl _ | with_reducible exact Gro.refl_drew _ _ _ | with_reducible exact Gro.refl_drewN _ _ _ _ | assumption | with_reducible apply Gro.more | with_reducible apply Gro.alloc | with_reducible apply Gro.drew | with_reducible apply Gro.drewN))
  obtain ⟨eb0, eb1⟩ := alloc2 w #[.slice A0 x.Space.Images.length c0, .slice A1 x.Space.Bases.length c1, .slice A2 x.Space.Entries.length c2, .slice A3 x.Threads.length c3, .int .i64 x.Turn, .int .i64 x.Left, .int .i64 x.Slice] #[.slice none 0 0, .slice none 0 0, .slice none 0 0, .slice none 0 0, .int .i64 0, .int .i64 0, .int .i64 0] 36 36
  have k0 := Ty.up _ h0 hG0
  have k1 := Ty.up _ h1 hG0
  have k2 := Ty.up _ h2 hG0
  have k3 := Ty.up _ h3 hG0
  have hs2 : szProcess x ≤ 1099511627776 := by omega
  have hms := threads_I64 h3
  obtain ⟨hli1, hli2⟩ := hli
  obtain ⟨g, hg⟩ : ∃ g, w.heap.size = g := ⟨_, rfl⟩
  obtain ⟨q, hq⟩ : ∃ q, procOk x = q := ⟨_, rfl⟩
  obtain ⟨ql, hql⟩ : ∃ q, btw limit 0 3000 = q := ⟨_, rfl⟩
  have HB := Lib.hid hq
  have HL := Lib.hid hql
  have HMS := Lib.hid hms
  have HSZ := Lib.hid hs
  clear hms hs
  go_enter Try.func38, Try.ntmps38
  go_upto_region 1 with (fail)
  rw [hg] at eb0 eb1
  generalize ((w.alloc (.cells #[.slice A0 x.Space.Images.length c0, .slice A1 x.Space.Bases.length c1, .slice A2 x.Space.Entries.length c2, .slice A3 x.Threads.length c3, .int .i64 x.Turn, .int .i64 x.Left, .int .i64 x.Slice] 36)).alloc (.cells #[.slice none 0 0, .slice none 0 0, .slice none 0 0, .slice none 0 0, .int .i64 0, .int .i64 0, .int .i64 0] 36)) = W1 at hG0 eb0 eb1 k0 k1 k2 k3 ⊢
  have hw1 := hG0.size
  clear h0 h1 h2 h3
  obtain ⟨a0, a1, a2, a3, a4, a5, a6, af, al⟩ := row7 eb0
  go_upto_region 2 with (go_at_call 78; (with_reducible refine (copyProcess_i (x := x) k0 k1 k2 k3 ht hle hsl hs2).mono ?_); rintro e w2 ⟨B0, d0, B1, d1, B2, d2, B3, d3, rfl, hFx, os2, e2, rfl⟩)
  obtain ⟨S0, S3, hP⟩ := PSt.make (B := [(g, Obj.cells #[.slice A0 x.Space.Images.length c0, .slice A1 x.Space.Bases.length c1, .slice A2 x.Space.Entries.length c2, .slice A3 x.Threads.length c3, .int .i64 x.Turn, .int .i64 x.Left, .int .i64 x.Slice] 36 (0, 0)), (g + 1, Obj.cells #[.slice none 0 0, .slice none 0 0, .slice none 0 0, .slice none 0 0, .int .i64 0, .int .i64 0, .int .i64 0] 36 (0, 0))]) hFx (Gro.of W1 os2 e2) (by
    intro p hp
    simp only [List.mem_cons, List.not_mem_nil, or_false] at hp
    rcases hp with rfl | rfl
    · exact eb0
    · exact eb1)
  rw [gro_size] at hP
  obtain ⟨g4, hg4⟩ : ∃ g4, W1.heap.size + os2.size = g4 := ⟨_, rfl⟩
  rw [hg4] at hP ⊢
  generalize (gro W1 os2 e2).alloc (.cells #[.slice B0 x.Space.Images.length d0, .slice B1 x.Space.Bases.length d1, .slice B2 x.Space.Entries.length d2, .slice B3 x.Threads.length d3, .int .i64 x.Turn, .int .i64 x.Left, .int .i64 x.Slice] 36) = wc at hP ⊢
  clear hFx hg4 a0 a1 a2 a3 a4 a5 a6 af al
  obtain ⟨a0, a1, a2, a3, a4, a5, a6, af, al⟩ := row7 (hP.kept (g := g) (.head _))
  have k0 := Ty.up _ k0 hP.gro
  have k1 := Ty.up _ k1 hP.gro
  have k2 := Ty.up _ k2 hP.gro
  have k3 := Ty.up _ k3 hP.gro
  have HP := Lib.hid hP
  clear hP
  cases q with
  | false =>
    have HQ := Lib.hid (show runP x limit = (x, []) from by unfold runP; rw [if_neg (by rw [hq]; simp)])
    clear hq hql
    go_upto_region 3 with (go_at_call 13; (with_reducible refine (procOk_i (x := x) k0 k1 k2 k3 hs2).mono ?_); rw [HB.out]; rintro e w4 ⟨rfl, hg4⟩)
    have hP4 := HP.out.gro' hg4
    obtain ⟨p0, p1, p2, p3, p4, p5, p6, pf, pl⟩ := row7 hP4.box
    have hz := hP4.kept (g := g + 1) (.tail _ (.head _))
    obtain ⟨z0, z1, z2, z3, z4, z5, z6, zf, zl⟩ := row7 hz
    obtain ⟨hHx, hlx, hnx⟩ := hP4.whole ht hle hsl
    have hGw := hG0.trans hP4.gro
    clear hP4
    have hLe := Has.nil intT 3 w4
    have hSLg : g + 1 ∉ ([] : List Nat) := by simp
    have hSLw : ∀ b ∈ ([] : List Nat), w.heap.size ≤ b := by simp
    have hdd : ∀ b ∈ S0 ++ S3, b ∉ ([] : List Nat) := by simp
    go_wp2_with (fail)
    have h9 := set7 hz (.slice B0 x.Space.Images.length d0) (.slice B1 x.Space.Bases.length d1) (.slice B2 x.Space.Entries.length d2) (.slice B3 x.Threads.length d3) (.int .i64 x.Turn) (.int .i64 x.Left) (.int .i64 x.Slice)
    generalize (((((((w4.setCell ⟨g + 1, 0, none⟩ (.slice B0 x.Space.Images.length d0)).setCell ⟨g + 1, 1, none⟩ (.slice B1 x.Space.Bases.length d1)).setCell ⟨g + 1, 2, none⟩ (.slice B2 x.Space.Entries.length d2)).setCell ⟨g + 1, 3, none⟩ (.slice B3 x.Threads.length d3)).setCell ⟨g + 1, 4, none⟩ (.int .i64 x.Turn)).setCell ⟨g + 1, 5, none⟩ (.int .i64 x.Left)).setCell ⟨g + 1, 6, none⟩ (.int .i64 x.Slice)) = X at h9 ⊢
    obtain ⟨r0, r1, r2, r3, r4, r5, r6, _, _⟩ := row7 h9.1
    have hGX := h9.2.gro hGw (fun b hb' => by simp at hb'; omega)
    have hF9 := hHx.keep h9.2 (fun b hb' hm => by simp at hm; exact hnx _ (.tail _ (.head _)) (hm ▸ hb'))
    have hF8 := hLe.keep h9.2 (fun b hb' hm => by simp at hm; exact hSLg (hm ▸ hb'))
    rw [HQ.out]
    exact bodyPost_ret (v := .tuple #[.agg #[.slice B0 x.Space.Images.length d0, .slice B1 x.Space.Bases.length d1, .slice B2 x.Space.Entries.length d2, .slice B3 x.Threads.length d3, .int .i64 x.Turn, .int .i64 x.Left, .int .i64 x.Slice], .slice none 0 0]) (by simp [results, Try.results38, go_sem, r0, r1, r2, r3, r4, r5, r6]) rfl ⟨B0, d0, B1, d1, B2, d2, B3, d3, _, _, _, _, rfl, hF9, hF8, hdd, (fun b hb2 => by have := hlx b hb2; omega), hSLw, hGX⟩
  | true =>
  cases ql with
  | false =>
    have HQ := Lib.hid (show runP x limit = (x, []) from by unfold runP; rw [if_neg (by rw [hql]; simp)])
    clear hq hql
    go_upto_region 3 with (first | (go_at_call 13; (with_reducible refine (procOk_i (x := x) k0 k1 k2 k3 hs2).mono ?_); rw [HB.out]; rintro e w4 ⟨rfl, hg4⟩) | (go_at_call 48; (with_reducible refine (in_i _ _ _ _).mono ?_); rw [HL.out]; rintro e w5 ⟨rfl, rfl⟩))
    have hP4 := HP.out.gro' hg4
    obtain ⟨p0, p1, p2, p3, p4, p5, p6, pf, pl⟩ := row7 hP4.box
    have hz := hP4.kept (g := g + 1) (.tail _ (.head _))
    obtain ⟨z0, z1, z2, z3, z4, z5, z6, zf, zl⟩ := row7 hz
    obtain ⟨hHx, hlx, hnx⟩ := hP4.whole ht hle hsl
    have hGw := hG0.trans hP4.gro
    clear hP4
    have hLe := Has.nil intT 3 w4
    have hSLg : g + 1 ∉ ([] : List Nat) := by simp
    have hSLw : ∀ b ∈ ([] : List Nat), w.heap.size ≤ b := by simp
    have hdd : ∀ b ∈ S0 ++ S3, b ∉ ([] : List Nat) := by simp
    go_wp2_with (fail)
    have h9 := set7 hz (.slice B0 x.Space.Images.length d0) (.slice B1 x.Space.Bases.length d1) (.slice B2 x.Space.Entries.length d2) (.slice B3 x.Threads.length d3) (.int .i64 x.Turn) (.int .i64 x.Left) (.int .i64 x.Slice)
    generalize (((((((w4.setCell ⟨g + 1, 0, none⟩ (.slice B0 x.Space.Images.length d0)).setCell ⟨g + 1, 1, none⟩ (.slice B1 x.Space.Bases.length d1)).setCell ⟨g + 1, 2, none⟩ (.slice B2 x.Space.Entries.length d2)).setCell ⟨g + 1, 3, none⟩ (.slice B3 x.Threads.length d3)).setCell ⟨g + 1, 4, none⟩ (.int .i64 x.Turn)).setCell ⟨g + 1, 5, none⟩ (.int .i64 x.Left)).setCell ⟨g + 1, 6, none⟩ (.int .i64 x.Slice)) = X at h9 ⊢
    obtain ⟨r0, r1, r2, r3, r4, r5, r6, _, _⟩ := row7 h9.1
    have hGX := h9.2.gro hGw (fun b hb' => by simp at hb'; omega)
    have hF9 := hHx.keep h9.2 (fun b hb' hm => by simp at hm; exact hnx _ (.tail _ (.head _)) (hm ▸ hb'))
    have hF8 := hLe.keep h9.2 (fun b hb' hm => by simp at hm; exact hSLg (hm ▸ hb'))
    rw [HQ.out]
    exact bodyPost_ret (v := .tuple #[.agg #[.slice B0 x.Space.Images.length d0, .slice B1 x.Space.Bases.length d1, .slice B2 x.Space.Entries.length d2, .slice B3 x.Threads.length d3, .int .i64 x.Turn, .int .i64 x.Left, .int .i64 x.Slice], .slice none 0 0]) (by simp [results, Try.results38, go_sem, r0, r1, r2, r3, r4, r5, r6]) rfl ⟨B0, d0, B1, d1, B2, d2, B3, d3, _, _, _, _, rfl, hF9, hF8, hdd, (fun b hb2 => by have := hlx b hb2; omega), hSLw, hGX⟩
  | true =>
    have hlb := btw_iff.1 hql
    obtain ⟨K, rfl⟩ := Int.eq_ofNat_of_zero_le hlb.1
    have hQ0 : runP x (K : Int) = runGo K x [] := by unfold runP; rw [if_pos ⟨hq, hql⟩, Int.toNat_natCast]
    have hv := PInv.mk' (N := 1099511600000) hq HSZ.out HMS.out
    have HV := Lib.hid hv
    have HQ0 := Lib.hid hQ0
    clear hq hql hv hQ0
    go_upto_region 4 with (first | (go_at_call 13; (with_reducible refine (procOk_i (x := x) k0 k1 k2 k3 hs2).mono ?_); rw [HB.out]; rintro e w4 ⟨rfl, hg4⟩) | (go_at_call 48; (with_reducible refine (in_i _ _ _ _).mono ?_); rw [HL.out]; rintro e w5 ⟨rfl, rfl⟩))
    have hP4 := HP.out.gro' hg4
    have hP2 := hP4.gro' (W' := w4.alloc (.cells #[] 3)) ((Gro.refl _).alloc _)
    have hLe := Has.emp intT (heap_alloc_new w4 (.cells #[] 3))
    have hlP := (Array.getElem?_eq_some_iff.1 hP4.box).1
    have hl0 := hP4.sp.lt
    have hl3 := hP4.th.lt
    have hgz := (Array.getElem?_eq_some_iff.1 (hP4.kept (g := g + 1) (.tail _ (.head _)))).1
    have hgz0 := (Array.getElem?_eq_some_iff.1 (hP4.kept (g := g) (.head _))).1
    have hYc := hP4.gro.size
    obtain ⟨g7, hg7⟩ : ∃ g7, w4.heap.size = g7 := ⟨_, rfl⟩
    rw [hg7] at hLe hlP hl0 hl3 hgz hgz0 hYc
    have hl7 : g7 < (w4.alloc (.cells #[] 3)).heap.size := by rw [World.size_alloc]; omega
    go_wp2
    generalize w4.alloc (.cells #[] 3) = wl at hP2 hLe hl7 ⊢
    clear hP4 hg7
    go_loopw [7] (fun a wr => ∃ (y : DProcess) (ts : List Int) (A7 : Option Addr) (c7 : Nat) (SL T3 : List Nat), a = .slice A7 ts.length c7 ∧ ts.length ≤ K ∧ Hid (PSt [(g, Obj.cells #[.slice A0 x.Space.Images.length c0, .slice A1 x.Space.Bases.length c1, .slice A2 x.Space.Entries.length c2, .slice A3 x.Threads.length c3, .int .i64 x.Turn, .int .i64 x.Left, .int .i64 x.Slice] 36 (0, 0)), (g + 1, Obj.cells #[.slice none 0 0, .slice none 0 0, .slice none 0 0, .slice none 0 0, .int .i64 0, .int .i64 0, .int .i64 0] 36 (0, 0))] W1 wr g4 y B0 d0 B1 d1 B2 d2 B3 d3 S0 T3) ∧ Hid (PInv (1099511600000 + ts.length) y) ∧ Hid (Has (intT.sl 3) wr [.slice A7 ts.length c7] ts SL) ∧ Hid (∀ b ∈ SL, W1.heap.size ≤ b) ∧ Hid (∀ b ∈ SL, b < wr.heap.size ∧ b ≠ g4 ∧ b ∉ S0 ∧ b ∉ T3) ∧ Hid (∀ p ∈ [(g, Obj.cells #[.slice A0 x.Space.Images.length c0, .slice A1 x.Space.Bases.length c1, .slice A2 x.Space.Entries.length c2, .slice A3 x.Threads.length c3, .int .i64 x.Turn, .int .i64 x.Left, .int .i64 x.Slice] 36 (0, 0)), (g + 1, Obj.cells #[.slice none 0 0, .slice none 0 0, .slice none 0 0, .slice none 0 0, .int .i64 0, .int .i64 0, .int .i64 0] 36 (0, 0))], p.1 ∉ SL) ∧ Hid (runGo (K - ts.length) y ts = runP x (K : Int)) ∧ szProcess y ≤ szProcess x + ts.length) (fun a _ => K - sliceLen a)
    case atStart =>
      refine ⟨x, [], some ⟨g7, 0, none⟩, 0, [g7], S3, rfl, Nat.zero_le _, Lib.hid hP2, HV, Lib.hid hLe, Lib.hid (by intro b hb; simp at hb; omega), Lib.hid (by
        intro b hb
        simp at hb
        subst hb
        exact ⟨hl7, by omega, fun hm => by have := hl0 _ hm; omega, fun hm => by have := hl3 _ hm; omega⟩), Lib.hid (by
        intro p hp
        simp only [List.mem_cons, List.not_mem_nil, or_false] at hp
        rcases hp with rfl | rfl
        · simp; omega
        · simp; omega), Lib.hid (by rw [List.length_nil, Nat.sub_zero]; exact HQ0.out.symm), Nat.le_refl _⟩
    case round =>
      obtain ⟨y, ts, A7, c7, SL, T3, rfl, htK, hPh, hVh, hLh, hSYh, hSDh, hSBh, hEh, hszy⟩ := hrel
      by_cases hlt : ts.length < K
      · have hki : (ts.length : Int) < (K : Int) := by omega
        have hPy0 := hPh.out.beside hSDh.out
        have HPY := Lib.hid hPy0
        clear hPy0
        have HTT := Lib.hid (turnP_t y)
        go_upto_if 27 with (go_at_call 79; (with_reducible refine (turn_i HPY.out hVh.out (by omega)).mono ?_); rintro e w5 ⟨rfl, hv5, S5, hP5⟩)
        obtain ⟨hL5, hD5⟩ := hLh.out.beside hP5
        have hP5 := hP5.drop (B' := [(g, Obj.cells #[.slice A0 x.Space.Images.length c0, .slice A1 x.Space.Bases.length c1, .slice A2 x.Space.Entries.length c2, .slice A3 x.Threads.length c3, .int .i64 x.Turn, .int .i64 x.Left, .int .i64 x.Slice] 36 (0, 0)), (g + 1, Obj.cells #[.slice none 0 0, .slice none 0 0, .slice none 0 0, .slice none 0 0, .int .i64 0, .int .i64 0, .int .i64 0] 36 (0, 0))]) (fun p hp => List.mem_append_right _ hp)
        have hsz5 := turnP_sz y
        obtain ⟨x5, hx5⟩ : ∃ z, turnP y = z := ⟨_, rfl⟩
        have hE5 := hEh.out
        have hKs : K - ts.length = (K - (ts.length + 1)) + 1 := by omega
        rw [hKs] at hE5
        unfold runGo at hE5
        have htt := HTT.out
        have hn3 := hVh.out.n3
        rw [hx5] at hv5 hP5 hsz5 hE5 htt ⊢
        obtain ⟨y5, t5⟩ := x5
        simp only at hv5 hP5 hsz5 hE5 htt ⊢
        clear hx5 HTT HPY hPh hVh hLh hSDh hEh
        by_cases ht5 : t5 < 0
        · rw [if_pos ht5] at hE5
          have HQ := Lib.hid hE5.symm
          have hSLB := hSBh.out
          have hSLY := hSYh.out
          have hvy := hv5
          have hPy := hP5
          have hLy := hL5
          have hSLd := hD5
          have hszy : szProcess y5 ≤ szProcess x + 3000 := by omega
          clear hE5 hv5 hP5 hL5 hD5
          have hyi : I64 y5.Turn ∧ I64 y5.Left ∧ I64 y5.Slice := by
            have e1 := hvy.t0
            have e2 := hvy.t1
            have e3 := hvy.l1
            have e4 := hvy.l2
            have e5 := hvy.s1
            have e6 := hvy.n3
            exact ⟨⟨by omega, by omega⟩, ⟨by omega, by omega⟩, ⟨by omega, by omega⟩⟩
          have hz := hPy.kept (g := g + 1) (.tail _ (.head _))
          obtain ⟨z0, z1, z2, z3, z4, z5, z6, zf, zl⟩ := row7 hz
          obtain ⟨hHx, hlx, hnx⟩ := hPy.whole hyi.1 hyi.2.1 hyi.2.2
          have hGw := hG0.trans hPy.gro
          obtain ⟨f0, f1, f2⟩ := leavesSpace hPy.sp.read
          have f3 := hPy.th.read
          obtain ⟨p0, p1, p2, p3, p4, p5, p6, pf, pl⟩ := row7 hPy.box
          have hl5 := (Array.getElem?_eq_some_iff.1 hz).1
          have hw5 := hGw.size
          have hSLg : g + 1 ∉ SL := fun hm => (hSLB (g + 1, _) (.tail _ (.head _))) hm
          have hSLw : ∀ b ∈ SL, w.heap.size ≤ b := fun b hb => by have := hSLY b hb; omega
          have hs5 : szProcess y5 ≤ 1099511627776 := by have := HSZ.out; omega
          clear hvy hPy
          go_wp2_with (go_at_call 78; (with_reducible refine (copyProcess_i (x := y5) f0 f1 f2 f3 hyi.1 hyi.2.1 hyi.2.2 hs5).mono ?_); rintro e w6 ⟨C0, e0, C1, e1, C2, e2, C3, e3, rfl, hFy, hg6⟩; have hz6 := grow_blk hz hg6; obtain ⟨z0, z1, z2, z3, z4, z5, z6, zf, zl⟩ := row7 hz6)
          obtain ⟨S6, hH6, hl6⟩ := Fresh.has hFy
          have hGw6 := hGw.trans hg6
          have hLy6 := hLy.gro hg6
          have hdd : ∀ b ∈ S6, b ∉ SL := fun b hb hm => by have h1 := hl6 b hb; have h2 := hLy.lt b hm; omega
          have h9 := set7 hz6 (.slice C0 y5.Space.Images.length e0) (.slice C1 y5.Space.Bases.length e1) (.slice C2 y5.Space.Entries.length e2) (.slice C3 y5.Threads.length e3) (.int .i64 y5.Turn) (.int .i64 y5.Left) (.int .i64 y5.Slice)
          generalize (((((((w6.setCell ⟨g + 1, 0, none⟩ (.slice C0 y5.Space.Images.length e0)).setCell ⟨g + 1, 1, none⟩ (.slice C1 y5.Space.Bases.length e1)).setCell ⟨g + 1, 2, none⟩ (.slice C2 y5.Space.Entries.length e2)).setCell ⟨g + 1, 3, none⟩ (.slice C3 y5.Threads.length e3)).setCell ⟨g + 1, 4, none⟩ (.int .i64 y5.Turn)).setCell ⟨g + 1, 5, none⟩ (.int .i64 y5.Left)).setCell ⟨g + 1, 6, none⟩ (.int .i64 y5.Slice)) = X at h9 ⊢
          obtain ⟨r0, r1, r2, r3, r4, r5, r6, _, _⟩ := row7 h9.1
          have hGX := h9.2.gro hGw6 (fun b hb' => by simp at hb'; omega)
          have hF9 := hH6.keep h9.2 (fun b hb' hm => by simp at hm; have := hl6 _ hb'; omega)
          have hF8 := hLy6.keep h9.2 (fun b hb' hm => by simp at hm; exact hSLg (hm ▸ hb'))
          rw [HQ.out]
          exact bodyPost_ret (v := .tuple #[.agg #[.slice C0 y5.Space.Images.length e0, .slice C1 y5.Space.Bases.length e1, .slice C2 y5.Space.Entries.length e2, .slice C3 y5.Threads.length e3, .int .i64 y5.Turn, .int .i64 y5.Left, .int .i64 y5.Slice], .slice A7 ts.length c7]) (by simp [results, Try.results38, go_sem, r0, r1, r2, r3, r4, r5, r6]) rfl ⟨C0, e0, C1, e1, C2, e2, C3, e3, _, _, _, _, rfl, hF9, hF8, hdd, (fun b hb2 => by have := hl6 b hb2; omega), hSLw, hGX⟩
        · rw [if_neg ht5] at hE5
          have hit5 : I64 t5 := ⟨by omega, by omega⟩
          have HE5 := Lib.hid hE5
          have hSLY := hSYh.out
          have hSLB := hSBh.out
          clear hE5
          go_wp2_with (first
            | (at_builtin; refine wpList_append_hasf (W1 := w5) (L := ts.length + 1) rfl (.tmp 28) (.tmp 30) elInt flat_int (hL5.gro (by (repeat (first | with_reducible exact Gro.refl _ | with_reducible exact Gro.refl_drew _ _ _ | with_reducible exact Gro.refl_drewN _ _ _ _ | assumption | with_reducible apply Gro.more | with_reducible apply Gro.alloc | with_reducible apply Gro.drew | with_reducible apply Gro.drewN)); done)) (ec := [.int .i64 t5]) (y := t5) (B := 0) ⟨rfl, hit5.1, hit5.2⟩ rfl rfl rfl (by intro j u hu; simpa [go_sem] using hu) rfl (by omega) (by omega) ?_; intro A9 c9 W9 S9 hon hH9 hS9))
          have hPg := hP5.gro' (W' := w5.alloc (.cells #[.int .i64 t5] 3)) (by (repeat (first | with_reducible exact Gro.refl _ | with_reducible exact Gro.refl_drew _ _ _ | with_reducible exact Gro.refl_drewN _ _ _ _ | assumption | with_reducible apply Gro.more | with_reducible apply Gro.alloc | with_reducible apply Gro.drew | with_reducible apply Gro.drewN)); done)
          have hP9 := hPg.only hon (fun b hb => ⟨(hD5 b hb).2.1, (hD5 b hb).2.2.1, (hD5 b hb).2.2.2, hSLY b hb, fun p hp he => hSLB p hp (he ▸ hb)⟩)
          have hln : (ts ++ [t5]).length = ts.length + 1 := by simp
          have hl9 := hH9.lt
          have hlp9 := (Array.getElem?_eq_some_iff.1 hP9.box).1
          have hYg := hP9.gro.size
          have hlp5 := (Array.getElem?_eq_some_iff.1 hP5.box).1
          have hl05 := hP5.sp.lt
          have hl35 := hP5.th.lt
          have hS9' : ∀ b ∈ S9, b ∈ SL ∨ w5.heap.size ≤ b := fun b hb => by
            rcases hS9 b hb with h1 | h1
            · exact .inl h1
            · rw [World.size_alloc] at h1; exact .inr (by omega)
          have hYg5 := hP5.gro.size
          have hk5 := fun p hp => (Array.getElem?_eq_some_iff.1 (hP5.kb p hp).1).1
          go_roundw
          case measure => (simp [sliceLen]; try omega)
          case rel =>
            refine ⟨y5, ts ++ [t5], A9, c9, S9, S5, by rw [hln], by omega, Lib.hid hP9, Lib.hid (by rw [hln]; exact hv5), Lib.hid (by rw [hln]; exact hH9), Lib.hid (fun b hb => ?_), Lib.hid (fun b hb => ⟨hl9 b hb, fun he => ?_, fun hm => ?_, fun hm => ?_⟩), Lib.hid (fun p hp hm => ?_), Lib.hid (by rw [hln]; exact HE5.out), by rw [hln]; omega⟩
            · rcases hS9' b hb with h1 | h1
              · exact hSLY b h1
              · omega
            · rcases hS9' b hb with h1 | h1
              · exact (hD5 b h1).2.1 he
              · omega
            · rcases hS9' b hb with h1 | h1
              · exact (hD5 b h1).2.2.1 hm
              · have := hl05 b hm; omega
            · rcases hS9' b hb with h1 | h1
              · exact (hD5 b h1).2.2.2 hm
              · have := hl35 b hm; omega
            · rcases hS9' p.1 hm with h1 | h1
              · exact hSLB p hp h1
              · have := hk5 p hp; omega
      · have hki : ¬ ((ts.length : Int) < (K : Int)) := by omega
        have hE5 := hEh.out
        rw [show K - ts.length = 0 from by omega] at hE5
        have HQ := Lib.hid (show runP x (K : Int) = (y, ts) from hE5.symm)
        have hSLB := hSBh.out
        have hSLY := hSYh.out
        have hvy := hVh.out
        have hPy := hPh.out
        have hLy := hLh.out
        have hSLd := hSDh.out
        have hszy : szProcess y ≤ szProcess x + 3000 := by omega
        clear hE5 hPh hVh hLh hSDh hEh
        have hyi : I64 y.Turn ∧ I64 y.Left ∧ I64 y.Slice := by
          have e1 := hvy.t0
          have e2 := hvy.t1
          have e3 := hvy.l1
          have e4 := hvy.l2
          have e5 := hvy.s1
          have e6 := hvy.n3
          exact ⟨⟨by omega, by omega⟩, ⟨by omega, by omega⟩, ⟨by omega, by omega⟩⟩
        have hz := hPy.kept (g := g + 1) (.tail _ (.head _))
        obtain ⟨z0, z1, z2, z3, z4, z5, z6, zf, zl⟩ := row7 hz
        obtain ⟨hHx, hlx, hnx⟩ := hPy.whole hyi.1 hyi.2.1 hyi.2.2
        have hGw := hG0.trans hPy.gro
        obtain ⟨f0, f1, f2⟩ := leavesSpace hPy.sp.read
        have f3 := hPy.th.read
        obtain ⟨p0, p1, p2, p3, p4, p5, p6, pf, pl⟩ := row7 hPy.box
        have hl5 := (Array.getElem?_eq_some_iff.1 hz).1
        have hw5 := hGw.size
        have hSLg : g + 1 ∉ SL := fun hm => (hSLB (g + 1, _) (.tail _ (.head _))) hm
        have hSLw : ∀ b ∈ SL, w.heap.size ≤ b := fun b hb => by have := hSLY b hb; omega
        have hs5 : szProcess y ≤ 1099511627776 := by have := HSZ.out; omega
        clear hvy hPy
        go_wp2_with (go_at_call 78; (with_reducible refine (copyProcess_i (x := y) f0 f1 f2 f3 hyi.1 hyi.2.1 hyi.2.2 hs5).mono ?_); rintro e w6 ⟨C0, e0, C1, e1, C2, e2, C3, e3, rfl, hFy, hg6⟩; have hz6 := grow_blk hz hg6; obtain ⟨z0, z1, z2, z3, z4, z5, z6, zf, zl⟩ := row7 hz6)
        obtain ⟨S6, hH6, hl6⟩ := Fresh.has hFy
        have hGw6 := hGw.trans hg6
        have hLy6 := hLy.gro hg6
        have hdd : ∀ b ∈ S6, b ∉ SL := fun b hb hm => by have h1 := hl6 b hb; have h2 := hLy.lt b hm; omega
        have h9 := set7 hz6 (.slice C0 y.Space.Images.length e0) (.slice C1 y.Space.Bases.length e1) (.slice C2 y.Space.Entries.length e2) (.slice C3 y.Threads.length e3) (.int .i64 y.Turn) (.int .i64 y.Left) (.int .i64 y.Slice)
        generalize (((((((w6.setCell ⟨g + 1, 0, none⟩ (.slice C0 y.Space.Images.length e0)).setCell ⟨g + 1, 1, none⟩ (.slice C1 y.Space.Bases.length e1)).setCell ⟨g + 1, 2, none⟩ (.slice C2 y.Space.Entries.length e2)).setCell ⟨g + 1, 3, none⟩ (.slice C3 y.Threads.length e3)).setCell ⟨g + 1, 4, none⟩ (.int .i64 y.Turn)).setCell ⟨g + 1, 5, none⟩ (.int .i64 y.Left)).setCell ⟨g + 1, 6, none⟩ (.int .i64 y.Slice)) = X at h9 ⊢
        obtain ⟨r0, r1, r2, r3, r4, r5, r6, _, _⟩ := row7 h9.1
        have hGX := h9.2.gro hGw6 (fun b hb' => by simp at hb'; omega)
        have hF9 := hH6.keep h9.2 (fun b hb' hm => by simp at hm; have := hl6 _ hb'; omega)
        have hF8 := hLy6.keep h9.2 (fun b hb' hm => by simp at hm; exact hSLg (hm ▸ hb'))
        rw [HQ.out]
        exact bodyPost_ret (v := .tuple #[.agg #[.slice C0 y.Space.Images.length e0, .slice C1 y.Space.Bases.length e1, .slice C2 y.Space.Entries.length e2, .slice C3 y.Threads.length e3, .int .i64 y.Turn, .int .i64 y.Left, .int .i64 y.Slice], .slice A7 ts.length c7]) (by simp [results, Try.results38, go_sem, r0, r1, r2, r3, r4, r5, r6]) rfl ⟨C0, e0, C1, e1, C2, e2, C3, e3, _, _, _, _, rfl, hF9, hF8, hdd, (fun b hb2 => by have := hl6 b hb2; omega), hSLw, hGX⟩
set_option maxRecDepth 100000 in
set_option maxHeartbeats 3000000 in
theorem runP_s {x : DProcess} {limit : Int} {w : World} {A0 A1 A2 A3 : Option Addr} {c0 c1 c2 c3 : Nat} (h0 : (tImage.sl 96).R w w.heap.size [.slice A0 x.Space.Images.length c0] x.Space.Images) (h1 : (intT.sl 3).R w w.heap.size [.slice A1 x.Space.Bases.length c1] x.Space.Bases)
    (h2 : (intT.sl 3).R w w.heap.size [.slice A2 x.Space.Entries.length c2] x.Space.Entries) (h3 : (tMachine.sl 80).R w w.heap.size [.slice A3 x.Threads.length c3] x.Threads) (ht : I64 x.Turn) (hle : I64 x.Left) (hsl : I64 x.Slice) (hli : I64 limit) (hs : szProcess x ≤ 1099511600000) :
    Calls Try.prog 37 #[.agg #[.slice A0 x.Space.Images.length c0, .slice A1 x.Space.Bases.length c1, .slice A2 x.Space.Entries.length c2, .slice A3 x.Threads.length c3, .int .i64 x.Turn, .int .i64 x.Left, .int .i64 x.Slice], .int .i64 limit] w (RetProcL (runP x limit) w) := by
  have hG0 : Gro w ((w.alloc (.cells #[.slice A0 x.Space.Images.length c0, .slice A1 x.Space.Bases.length c1, .slice A2 x.Space.Entries.length c2, .slice A3 x.Threads.length c3, .int .i64 x.Turn, .int .i64 x.Left, .int .i64 x.Slice] 36)).alloc (.cells #[.slice none 0 0, .slice none 0 0, .slice none 0 0, .slice none 0 0, .int .i64 0, .int .i64 0, .int .i64 0] 36)) := (by repeat (first | with_reducible exact Gro.refl _ | with_reducible exact Gro.refl_drew _ _ _ | with_reducible exact Gro.refl_drewN _ _ _ _ | assumption | with_reducible apply Gro.more | with_reducible apply Gro.alloc | with_reducible apply Gro.drew | with_reducible apply Gro.drewN))
  obtain ⟨eb0, eb1⟩ := alloc2 w #[.slice A0 x.Space.Images.length c0, .slice A1 x.Space.Bases.length c1, .slice A2 x.Space.Entries.length c2, .slice A3 x.Threads.length c3, .int .i64 x.Turn, .int .i64 x.Left, .int .i64 x.Slice] #[.slice none 0 0, .slice none 0 0, .slice none 0 0, .slice none 0 0, .int .i64 0, .int .i64 0, .int .i64 0] 36 36
  have k0 := Ty.up _ h0 hG0
  have k1 := Ty.up _ h1 hG0
  have k2 := Ty.up _ h2 hG0
  have k3 := Ty.up _ h3 hG0
  have hs2 : szProcess x ≤ 1099511627776 := by omega
  have hms := threads_I64 h3
  obtain ⟨hli1, hli2⟩ := hli
  obtain ⟨g, hg⟩ : ∃ g, w.heap.size = g := ⟨_, rfl⟩
  obtain ⟨q, hq⟩ : ∃ q, procOk x = q := ⟨_, rfl⟩
  obtain ⟨ql, hql⟩ : ∃ q, btw limit 0 3000 = q := ⟨_, rfl⟩
  have HB := Lib.hid hq
  have HL := Lib.hid hql
  have HMS := Lib.hid hms
  have HSZ := Lib.hid hs
  clear hms hs
  go_enter Try.func37, Try.ntmps37
  go_upto_region 1 with (fail)
  rw [hg] at eb0 eb1
  generalize ((w.alloc (.cells #[.slice A0 x.Space.Images.length c0, .slice A1 x.Space.Bases.length c1, .slice A2 x.Space.Entries.length c2, .slice A3 x.Threads.length c3, .int .i64 x.Turn, .int .i64 x.Left, .int .i64 x.Slice] 36)).alloc (.cells #[.slice none 0 0, .slice none 0 0, .slice none 0 0, .slice none 0 0, .int .i64 0, .int .i64 0, .int .i64 0] 36)) = W1 at hG0 eb0 eb1 k0 k1 k2 k3 ⊢
  have hw1 := hG0.size
  clear h0 h1 h2 h3
  obtain ⟨a0, a1, a2, a3, a4, a5, a6, af, al⟩ := row7 eb0
  go_upto_region 2 with (go_at_call 76; (with_reducible refine (copyProcess_s (x := x) k0 k1 k2 k3 ht hle hsl hs2).mono ?_); rintro e w2 ⟨B0, d0, B1, d1, B2, d2, B3, d3, rfl, hFx, os2, e2, rfl⟩)
  obtain ⟨S0, S3, hP⟩ := PSt.make (B := [(g, Obj.cells #[.slice A0 x.Space.Images.length c0, .slice A1 x.Space.Bases.length c1, .slice A2 x.Space.Entries.length c2, .slice A3 x.Threads.length c3, .int .i64 x.Turn, .int .i64 x.Left, .int .i64 x.Slice] 36 (0, 0)), (g + 1, Obj.cells #[.slice none 0 0, .slice none 0 0, .slice none 0 0, .slice none 0 0, .int .i64 0, .int .i64 0, .int .i64 0] 36 (0, 0))]) hFx (Gro.of W1 os2 e2) (by
    intro p hp
    simp only [List.mem_cons, List.not_mem_nil, or_false] at hp
    rcases hp with rfl | rfl
    · exact eb0
    · exact eb1)
  rw [gro_size] at hP
  obtain ⟨g4, hg4⟩ : ∃ g4, W1.heap.size + os2.size = g4 := ⟨_, rfl⟩
  rw [hg4] at hP ⊢
  generalize (gro W1 os2 e2).alloc (.cells #[.slice B0 x.Space.Images.length d0, .slice B1 x.Space.Bases.length d1, .slice B2 x.Space.Entries.length d2, .slice B3 x.Threads.length d3, .int .i64 x.Turn, .int .i64 x.Left, .int .i64 x.Slice] 36) = wc at hP ⊢
  clear hFx hg4 a0 a1 a2 a3 a4 a5 a6 af al
  go_upto_region 3 with (fail)
  have hP2 := hP.gro' (W' := wc.alloc (.cells #[] 3)) ((Gro.refl _).alloc _)
  have hLe := Has.emp intT (heap_alloc_new wc (.cells #[] 3))
  have hlP := (Array.getElem?_eq_some_iff.1 hP.box).1
  have hl0 := hP.sp.lt
  have hl3 := hP.th.lt
  have hgz := (Array.getElem?_eq_some_iff.1 (hP.kept (g := g + 1) (.tail _ (.head _)))).1
  have hgz0 := (Array.getElem?_eq_some_iff.1 (hP.kept (g := g) (.head _))).1
  have hYc := hP.gro.size
  clear hP
  obtain ⟨g7, hg7⟩ : ∃ g7, wc.heap.size = g7 := ⟨_, rfl⟩
  rw [hg7] at hLe hlP hl0 hl3 hgz hgz0 hYc ⊢
  have hP := hP2
  have hl7 : g7 < (wc.alloc (.cells #[] 3)).heap.size := by rw [World.size_alloc]; omega
  generalize wc.alloc (.cells #[] 3) = wd at hP hLe hl7 ⊢
  clear hP2 hg7
  obtain ⟨a0, a1, a2, a3, a4, a5, a6, af, al⟩ := row7 (hP.kept (g := g) (.head _))
  have k0 := Ty.up _ k0 hP.gro
  have k1 := Ty.up _ k1 hP.gro
  have k2 := Ty.up _ k2 hP.gro
  have k3 := Ty.up _ k3 hP.gro
  have HP := Lib.hid hP
  clear hP
  cases q with
  | false =>
    have HQ := Lib.hid (show runP x limit = (x, []) from by unfold runP; rw [if_neg (by rw [hq]; simp)])
    clear hq hql
    go_upto_region 4 with (go_at_call 11; (with_reducible refine (procOk_s (x := x) k0 k1 k2 k3 hs2).mono ?_); rw [HB.out]; rintro e w4 ⟨rfl, hg4⟩)
    have hP4 := HP.out.gro' hg4
    obtain ⟨p0, p1, p2, p3, p4, p5, p6, pf, pl⟩ := row7 hP4.box
    have hz := hP4.kept (g := g + 1) (.tail _ (.head _))
    obtain ⟨z0, z1, z2, z3, z4, z5, z6, zf, zl⟩ := row7 hz
    obtain ⟨hHx, hlx, hnx⟩ := hP4.whole ht hle hsl
    have hGw := hG0.trans hP4.gro
    clear hP4
    have hLe := hLe.gro hg4
    have hSLg : g + 1 ∉ [g7] := by simp; omega
    have hSLw : ∀ b ∈ [g7], w.heap.size ≤ b := by simp; omega
    have hdd : ∀ b ∈ S0 ++ S3, b ∉ [g7] := by
      intro b hb hm
      simp at hm
      subst hm
      rcases List.mem_append.1 hb with h9 | h9
      · have := hl0 _ h9; omega
      · have := hl3 _ h9; omega
    go_wp2_with (fail)
    have h9 := set7 hz (.slice B0 x.Space.Images.length d0) (.slice B1 x.Space.Bases.length d1) (.slice B2 x.Space.Entries.length d2) (.slice B3 x.Threads.length d3) (.int .i64 x.Turn) (.int .i64 x.Left) (.int .i64 x.Slice)
    generalize (((((((w4.setCell ⟨g + 1, 0, none⟩ (.slice B0 x.Space.Images.length d0)).setCell ⟨g + 1, 1, none⟩ (.slice B1 x.Space.Bases.length d1)).setCell ⟨g + 1, 2, none⟩ (.slice B2 x.Space.Entries.length d2)).setCell ⟨g + 1, 3, none⟩ (.slice B3 x.Threads.length d3)).setCell ⟨g + 1, 4, none⟩ (.int .i64 x.Turn)).setCell ⟨g + 1, 5, none⟩ (.int .i64 x.Left)).setCell ⟨g + 1, 6, none⟩ (.int .i64 x.Slice)) = X at h9 ⊢
    obtain ⟨r0, r1, r2, r3, r4, r5, r6, _, _⟩ := row7 h9.1
    have hGX := h9.2.gro hGw (fun b hb' => by simp at hb'; omega)
    have hF9 := hHx.keep h9.2 (fun b hb' hm => by simp at hm; exact hnx _ (.tail _ (.head _)) (hm ▸ hb'))
    have hF8 := hLe.keep h9.2 (fun b hb' hm => by simp at hm; exact hSLg (hm ▸ hb'))
    rw [HQ.out]
    exact bodyPost_ret (v := .tuple #[.agg #[.slice B0 x.Space.Images.length d0, .slice B1 x.Space.Bases.length d1, .slice B2 x.Space.Entries.length d2, .slice B3 x.Threads.length d3, .int .i64 x.Turn, .int .i64 x.Left, .int .i64 x.Slice], .slice (some ⟨g7, 0, none⟩) 0 0]) (by simp [results, Try.results37, go_sem, r0, r1, r2, r3, r4, r5, r6]) rfl ⟨B0, d0, B1, d1, B2, d2, B3, d3, _, _, _, _, rfl, hF9, hF8, hdd, (fun b hb2 => by have := hlx b hb2; omega), hSLw, hGX⟩
  | true =>
  cases ql with
  | false =>
    have HQ := Lib.hid (show runP x limit = (x, []) from by unfold runP; rw [if_neg (by rw [hql]; simp)])
    clear hq hql
    go_upto_region 4 with (first | (go_at_call 11; (with_reducible refine (procOk_s (x := x) k0 k1 k2 k3 hs2).mono ?_); rw [HB.out]; rintro e w4 ⟨rfl, hg4⟩) | (go_at_call 44; (with_reducible refine (in_s _ _ _ _).mono ?_); rw [HL.out]; rintro e w5 ⟨rfl, rfl⟩))
    have hP4 := HP.out.gro' hg4
    obtain ⟨p0, p1, p2, p3, p4, p5, p6, pf, pl⟩ := row7 hP4.box
    have hz := hP4.kept (g := g + 1) (.tail _ (.head _))
    obtain ⟨z0, z1, z2, z3, z4, z5, z6, zf, zl⟩ := row7 hz
    obtain ⟨hHx, hlx, hnx⟩ := hP4.whole ht hle hsl
    have hGw := hG0.trans hP4.gro
    clear hP4
    have hLe := hLe.gro hg4
    have hSLg : g + 1 ∉ [g7] := by simp; omega
    have hSLw : ∀ b ∈ [g7], w.heap.size ≤ b := by simp; omega
    have hdd : ∀ b ∈ S0 ++ S3, b ∉ [g7] := by
      intro b hb hm
      simp at hm
      subst hm
      rcases List.mem_append.1 hb with h9 | h9
      · have := hl0 _ h9; omega
      · have := hl3 _ h9; omega
    go_wp2_with (fail)
    have h9 := set7 hz (.slice B0 x.Space.Images.length d0) (.slice B1 x.Space.Bases.length d1) (.slice B2 x.Space.Entries.length d2) (.slice B3 x.Threads.length d3) (.int .i64 x.Turn) (.int .i64 x.Left) (.int .i64 x.Slice)
    generalize (((((((w4.setCell ⟨g + 1, 0, none⟩ (.slice B0 x.Space.Images.length d0)).setCell ⟨g + 1, 1, none⟩ (.slice B1 x.Space.Bases.length d1)).setCell ⟨g + 1, 2, none⟩ (.slice B2 x.Space.Entries.length d2)).setCell ⟨g + 1, 3, none⟩ (.slice B3 x.Threads.length d3)).setCell ⟨g + 1, 4, none⟩ (.int .i64 x.Turn)).setCell ⟨g + 1, 5, none⟩ (.int .i64 x.Left)).setCell ⟨g + 1, 6, none⟩ (.int .i64 x.Slice)) = X at h9 ⊢
    obtain ⟨r0, r1, r2, r3, r4, r5, r6, _, _⟩ := row7 h9.1
    have hGX := h9.2.gro hGw (fun b hb' => by simp at hb'; omega)
    have hF9 := hHx.keep h9.2 (fun b hb' hm => by simp at hm; exact hnx _ (.tail _ (.head _)) (hm ▸ hb'))
    have hF8 := hLe.keep h9.2 (fun b hb' hm => by simp at hm; exact hSLg (hm ▸ hb'))
    rw [HQ.out]
    exact bodyPost_ret (v := .tuple #[.agg #[.slice B0 x.Space.Images.length d0, .slice B1 x.Space.Bases.length d1, .slice B2 x.Space.Entries.length d2, .slice B3 x.Threads.length d3, .int .i64 x.Turn, .int .i64 x.Left, .int .i64 x.Slice], .slice (some ⟨g7, 0, none⟩) 0 0]) (by simp [results, Try.results37, go_sem, r0, r1, r2, r3, r4, r5, r6]) rfl ⟨B0, d0, B1, d1, B2, d2, B3, d3, _, _, _, _, rfl, hF9, hF8, hdd, (fun b hb2 => by have := hlx b hb2; omega), hSLw, hGX⟩
  | true =>
    have hlb := btw_iff.1 hql
    obtain ⟨K, rfl⟩ := Int.eq_ofNat_of_zero_le hlb.1
    have hQ0 : runP x (K : Int) = runGo K x [] := by unfold runP; rw [if_pos ⟨hq, hql⟩, Int.toNat_natCast]
    have hv := PInv.mk' (N := 1099511600000) hq HSZ.out HMS.out
    have HV := Lib.hid hv
    have HQ0 := Lib.hid hQ0
    clear hq hql hv hQ0
    go_upto_region 5 with (first | (go_at_call 11; (with_reducible refine (procOk_s (x := x) k0 k1 k2 k3 hs2).mono ?_); rw [HB.out]; rintro e w4 ⟨rfl, hg4⟩) | (go_at_call 44; (with_reducible refine (in_s _ _ _ _).mono ?_); rw [HL.out]; rintro e w5 ⟨rfl, rfl⟩))
    have hP4 := HP.out.gro' hg4
    have hP2 := hP4
    have hLe := hLe.gro hg4
    have hl7 : g7 < w4.heap.size := by have := hg4.size; omega
    go_wp2
    obtain ⟨wl, hwl⟩ : ∃ wl, w4 = wl := ⟨_, rfl⟩
    rw [hwl] at hP2 hLe hl7 ⊢
    clear hP4 hwl
    go_loopw [7] (fun a wr => ∃ (y : DProcess) (ts : List Int) (A7 : Option Addr) (c7 : Nat) (SL T3 : List Nat), a = .slice A7 ts.length c7 ∧ ts.length ≤ K ∧ Hid (PSt [(g, Obj.cells #[.slice A0 x.Space.Images.length c0, .slice A1 x.Space.Bases.length c1, .slice A2 x.Space.Entries.length c2, .slice A3 x.Threads.length c3, .int .i64 x.Turn, .int .i64 x.Left, .int .i64 x.Slice] 36 (0, 0)), (g + 1, Obj.cells #[.slice none 0 0, .slice none 0 0, .slice none 0 0, .slice none 0 0, .int .i64 0, .int .i64 0, .int .i64 0] 36 (0, 0))] W1 wr g4 y B0 d0 B1 d1 B2 d2 B3 d3 S0 T3) ∧ Hid (PInv (1099511600000 + ts.length) y) ∧ Hid (Has (intT.sl 3) wr [.slice A7 ts.length c7] ts SL) ∧ Hid (∀ b ∈ SL, W1.heap.size ≤ b) ∧ Hid (∀ b ∈ SL, b < wr.heap.size ∧ b ≠ g4 ∧ b ∉ S0 ∧ b ∉ T3) ∧ Hid (∀ p ∈ [(g, Obj.cells #[.slice A0 x.Space.Images.length c0, .slice A1 x.Space.Bases.length c1, .slice A2 x.Space.Entries.length c2, .slice A3 x.Threads.length c3, .int .i64 x.Turn, .int .i64 x.Left, .int .i64 x.Slice] 36 (0, 0)), (g + 1, Obj.cells #[.slice none 0 0, .slice none 0 0, .slice none 0 0, .slice none 0 0, .int .i64 0, .int .i64 0, .int .i64 0] 36 (0, 0))], p.1 ∉ SL) ∧ Hid (runGo (K - ts.length) y ts = runP x (K : Int)) ∧ szProcess y ≤ szProcess x + ts.length) (fun a _ => K - sliceLen a)
    case atStart =>
      refine ⟨x, [], some ⟨g7, 0, none⟩, 0, [g7], S3, rfl, Nat.zero_le _, Lib.hid hP2, HV, Lib.hid hLe, Lib.hid (by intro b hb; simp at hb; omega), Lib.hid (by
        intro b hb
        simp at hb
        subst hb
        exact ⟨hl7, by omega, fun hm => by have := hl0 _ hm; omega, fun hm => by have := hl3 _ hm; omega⟩), Lib.hid (by
        intro p hp
        simp only [List.mem_cons, List.not_mem_nil, or_false] at hp
        rcases hp with rfl | rfl
        · simp; omega
        · simp; omega), Lib.hid (by rw [List.length_nil, Nat.sub_zero]; exact HQ0.out.symm), Nat.le_refl _⟩
    case round =>
      obtain ⟨y, ts, A7, c7, SL, T3, rfl, htK, hPh, hVh, hLh, hSYh, hSDh, hSBh, hEh, hszy⟩ := hrel
      by_cases hlt : ts.length < K
      · have hki : (ts.length : Int) < (K : Int) := by omega
        have hPy0 := hPh.out.beside hSDh.out
        have HPY := Lib.hid hPy0
        clear hPy0
        have HTT := Lib.hid (turnP_t y)
        go_upto_if 28 with (go_at_call 77; (with_reducible refine (turn_s HPY.out hVh.out (by omega)).mono ?_); rintro e w5 ⟨rfl, hv5, S5, hP5⟩)
        obtain ⟨hL5, hD5⟩ := hLh.out.beside hP5
        have hP5 := hP5.drop (B' := [(g, Obj.cells #[.slice A0 x.Space.Images.length c0, .slice A1 x.Space.Bases.length c1, .slice A2 x.Space.Entries.length c2, .slice A3 x.Threads.length c3, .int .i64 x.Turn, .int .i64 x.Left, .int .i64 x.Slice] 36 (0, 0)), (g + 1, Obj.cells #[.slice none 0 0, .slice none 0 0, .slice none 0 0, .slice none 0 0, .int .i64 0, .int .i64 0, .int .i64 0] 36 (0, 0))]) (fun p hp => List.mem_append_right _ hp)
        have hsz5 := turnP_sz y
        obtain ⟨x5, hx5⟩ : ∃ z, turnP y = z := ⟨_, rfl⟩
        have hE5 := hEh.out
        have hKs : K - ts.length = (K - (ts.length + 1)) + 1 := by omega
        rw [hKs] at hE5
        unfold runGo at hE5
        have htt := HTT.out
        have hn3 := hVh.out.n3
        rw [hx5] at hv5 hP5 hsz5 hE5 htt ⊢
        obtain ⟨y5, t5⟩ := x5
        simp only at hv5 hP5 hsz5 hE5 htt ⊢
        clear hx5 HTT HPY hPh hVh hLh hSDh hEh
        by_cases ht5 : t5 < 0
        · rw [if_pos ht5] at hE5
          have HQ := Lib.hid hE5.symm
          have hSLB := hSBh.out
          have hSLY := hSYh.out
          have hvy := hv5
          have hPy := hP5
          have hLy := hL5
          have hSLd := hD5
          have hszy : szProcess y5 ≤ szProcess x + 3000 := by omega
          clear hE5 hv5 hP5 hL5 hD5
          have hyi : I64 y5.Turn ∧ I64 y5.Left ∧ I64 y5.Slice := by
            have e1 := hvy.t0
            have e2 := hvy.t1
            have e3 := hvy.l1
            have e4 := hvy.l2
            have e5 := hvy.s1
            have e6 := hvy.n3
            exact ⟨⟨by omega, by omega⟩, ⟨by omega, by omega⟩, ⟨by omega, by omega⟩⟩
          have hz := hPy.kept (g := g + 1) (.tail _ (.head _))
          obtain ⟨z0, z1, z2, z3, z4, z5, z6, zf, zl⟩ := row7 hz
          obtain ⟨hHx, hlx, hnx⟩ := hPy.whole hyi.1 hyi.2.1 hyi.2.2
          have hGw := hG0.trans hPy.gro
          obtain ⟨f0, f1, f2⟩ := leavesSpace hPy.sp.read
          have f3 := hPy.th.read
          obtain ⟨p0, p1, p2, p3, p4, p5, p6, pf, pl⟩ := row7 hPy.box
          have hl5 := (Array.getElem?_eq_some_iff.1 hz).1
          have hw5 := hGw.size
          have hSLg : g + 1 ∉ SL := fun hm => (hSLB (g + 1, _) (.tail _ (.head _))) hm
          have hSLw : ∀ b ∈ SL, w.heap.size ≤ b := fun b hb => by have := hSLY b hb; omega
          have hs5 : szProcess y5 ≤ 1099511627776 := by have := HSZ.out; omega
          clear hvy hPy
          go_wp2_with (fail)
          have hdd : ∀ b ∈ S0 ++ S5, b ∉ SL := fun b hb hm => by
            rcases List.mem_append.1 hb with h9 | h9
            · exact (hSLd b hm).2.2.1 h9
            · exact (hSLd b hm).2.2.2 h9
          have h9 := set7 hz (.slice B0 y5.Space.Images.length d0) (.slice B1 y5.Space.Bases.length d1) (.slice B2 y5.Space.Entries.length d2) (.slice B3 y5.Threads.length d3) (.int .i64 y5.Turn) (.int .i64 y5.Left) (.int .i64 y5.Slice)
          generalize (((((((w5.setCell ⟨g + 1, 0, none⟩ (.slice B0 y5.Space.Images.length d0)).setCell ⟨g + 1, 1, none⟩ (.slice B1 y5.Space.Bases.length d1)).setCell ⟨g + 1, 2, none⟩ (.slice B2 y5.Space.Entries.length d2)).setCell ⟨g + 1, 3, none⟩ (.slice B3 y5.Threads.length d3)).setCell ⟨g + 1, 4, none⟩ (.int .i64 y5.Turn)).setCell ⟨g + 1, 5, none⟩ (.int .i64 y5.Left)).setCell ⟨g + 1, 6, none⟩ (.int .i64 y5.Slice)) = X at h9 ⊢
          obtain ⟨r0, r1, r2, r3, r4, r5, r6, _, _⟩ := row7 h9.1
          have hGX := h9.2.gro hGw (fun b hb' => by simp at hb'; omega)
          have hF9 := hHx.keep h9.2 (fun b hb' hm => by simp at hm; exact hnx _ (.tail _ (.head _)) (hm ▸ hb'))
          have hF8 := hLy.keep h9.2 (fun b hb' hm => by simp at hm; exact hSLg (hm ▸ hb'))
          rw [HQ.out]
          exact bodyPost_ret (v := .tuple #[.agg #[.slice B0 y5.Space.Images.length d0, .slice B1 y5.Space.Bases.length d1, .slice B2 y5.Space.Entries.length d2, .slice B3 y5.Threads.length d3, .int .i64 y5.Turn, .int .i64 y5.Left, .int .i64 y5.Slice], .slice A7 ts.length c7]) (by simp [results, Try.results37, go_sem, r0, r1, r2, r3, r4, r5, r6]) rfl ⟨B0, d0, B1, d1, B2, d2, B3, d3, _, _, _, _, rfl, hF9, hF8, hdd, (fun b hb2 => by have := hlx b hb2; omega), hSLw, hGX⟩
        · rw [if_neg ht5] at hE5
          have hit5 : I64 t5 := ⟨by omega, by omega⟩
          have HE5 := Lib.hid hE5
          have hSLY := hSYh.out
          have hSLB := hSBh.out
          clear hE5
          go_wp2_with (first
            | (at_builtin; refine wpList_append_hasf (W1 := w5) (L := ts.length + 1) rfl (.tmp 29) (.tmp 31) elInt flat_int (hL5.gro (by (repeat (first | with_reducible exact Gro.refl _ | with_reducible exact Gro.refl_drew _ _ _ | with_reducible exact Gro.refl_drewN _ _ _ _ | assumption | with_reducible apply Gro.more | with_reducible apply Gro.alloc | with_reducible apply Gro.drew | with_reducible apply Gro.drewN)); done)) (ec := [.int .i64 t5]) (y := t5) (B := 0) ⟨rfl, hit5.1, hit5.2⟩ rfl rfl rfl (by intro j u hu; simpa [go_sem] using hu) rfl (by omega) (by omega) ?_; intro A9 c9 W9 S9 hon hH9 hS9))
          have hPg := hP5.gro' (W' := w5.alloc (.cells #[.int .i64 t5] 3)) (by (repeat (first | with_reducible exact Gro.refl _ | with_reducible exact Gro.refl_drew _ _ _ | with_reducible exact Gro.refl_drewN _ _ _ _ | assumption | with_reducible apply Gro.more | with_reducible apply Gro.alloc | with_reducible apply Gro.drew | with_reducible apply Gro.drewN)); done)
          have hP9 := hPg.only hon (fun b hb => ⟨(hD5 b hb).2.1, (hD5 b hb).2.2.1, (hD5 b hb).2.2.2, hSLY b hb, fun p hp he => hSLB p hp (he ▸ hb)⟩)
          have hln : (ts ++ [t5]).length = ts.length + 1 := by simp
          have hl9 := hH9.lt
          have hlp9 := (Array.getElem?_eq_some_iff.1 hP9.box).1
          have hYg := hP9.gro.size
          have hlp5 := (Array.getElem?_eq_some_iff.1 hP5.box).1
          have hl05 := hP5.sp.lt
          have hl35 := hP5.th.lt
          have hS9' : ∀ b ∈ S9, b ∈ SL ∨ w5.heap.size ≤ b := fun b hb => by
            rcases hS9 b hb with h1 | h1
            · exact .inl h1
            · rw [World.size_alloc] at h1; exact .inr (by omega)
          have hYg5 := hP5.gro.size
          have hk5 := fun p hp => (Array.getElem?_eq_some_iff.1 (hP5.kb p hp).1).1
          go_roundw
          case measure => (simp [sliceLen]; try omega)
          case rel =>
            refine ⟨y5, ts ++ [t5], A9, c9, S9, S5, by rw [hln], by omega, Lib.hid hP9, Lib.hid (by rw [hln]; exact hv5), Lib.hid (by rw [hln]; exact hH9), Lib.hid (fun b hb => ?_), Lib.hid (fun b hb => ⟨hl9 b hb, fun he => ?_, fun hm => ?_, fun hm => ?_⟩), Lib.hid (fun p hp hm => ?_), Lib.hid (by rw [hln]; exact HE5.out), by rw [hln]; omega⟩
            · rcases hS9' b hb with h1 | h1
              · exact hSLY b h1
              · omega
            · rcases hS9' b hb with h1 | h1
              · exact (hD5 b h1).2.1 he
              · omega
            · rcases hS9' b hb with h1 | h1
              · exact (hD5 b h1).2.2.1 hm
              · have := hl05 b hm; omega
            · rcases hS9' b hb with h1 | h1
              · exact (hD5 b h1).2.2.2 hm
              · have := hl35 b hm; omega
            · rcases hS9' p.1 hm with h1 | h1
              · exact hSLB p hp h1
              · have := hk5 p hp; omega
      · have hki : ¬ ((ts.length : Int) < (K : Int)) := by omega
        have hE5 := hEh.out
        rw [show K - ts.length = 0 from by omega] at hE5
        have HQ := Lib.hid (show runP x (K : Int) = (y, ts) from hE5.symm)
        have hSLB := hSBh.out
        have hSLY := hSYh.out
        have hvy := hVh.out
        have hPy := hPh.out
        have hLy := hLh.out
        have hSLd := hSDh.out
        have hszy : szProcess y ≤ szProcess x + 3000 := by omega
        clear hE5 hPh hVh hLh hSDh hEh
        have hyi : I64 y.Turn ∧ I64 y.Left ∧ I64 y.Slice := by
          have e1 := hvy.t0
          have e2 := hvy.t1
          have e3 := hvy.l1
          have e4 := hvy.l2
          have e5 := hvy.s1
          have e6 := hvy.n3
          exact ⟨⟨by omega, by omega⟩, ⟨by omega, by omega⟩, ⟨by omega, by omega⟩⟩
        have hz := hPy.kept (g := g + 1) (.tail _ (.head _))
        obtain ⟨z0, z1, z2, z3, z4, z5, z6, zf, zl⟩ := row7 hz
        obtain ⟨hHx, hlx, hnx⟩ := hPy.whole hyi.1 hyi.2.1 hyi.2.2
        have hGw := hG0.trans hPy.gro
        obtain ⟨f0, f1, f2⟩ := leavesSpace hPy.sp.read
        have f3 := hPy.th.read
        obtain ⟨p0, p1, p2, p3, p4, p5, p6, pf, pl⟩ := row7 hPy.box
        have hl5 := (Array.getElem?_eq_some_iff.1 hz).1
        have hw5 := hGw.size
        have hSLg : g + 1 ∉ SL := fun hm => (hSLB (g + 1, _) (.tail _ (.head _))) hm
        have hSLw : ∀ b ∈ SL, w.heap.size ≤ b := fun b hb => by have := hSLY b hb; omega
        have hs5 : szProcess y ≤ 1099511627776 := by have := HSZ.out; omega
        clear hvy hPy
        go_wp2_with (fail)
        have hdd : ∀ b ∈ S0 ++ T3, b ∉ SL := fun b hb hm => by
          rcases List.mem_append.1 hb with h9 | h9
          · exact (hSLd b hm).2.2.1 h9
          · exact (hSLd b hm).2.2.2 h9
        have h9 := set7 hz (.slice B0 y.Space.Images.length d0) (.slice B1 y.Space.Bases.length d1) (.slice B2 y.Space.Entries.length d2) (.slice B3 y.Threads.length d3) (.int .i64 y.Turn) (.int .i64 y.Left) (.int .i64 y.Slice)
        generalize (((((((wr.setCell ⟨g + 1, 0, none⟩ (.slice B0 y.Space.Images.length d0)).setCell ⟨g + 1, 1, none⟩ (.slice B1 y.Space.Bases.length d1)).setCell ⟨g + 1, 2, none⟩ (.slice B2 y.Space.Entries.length d2)).setCell ⟨g + 1, 3, none⟩ (.slice B3 y.Threads.length d3)).setCell ⟨g + 1, 4, none⟩ (.int .i64 y.Turn)).setCell ⟨g + 1, 5, none⟩ (.int .i64 y.Left)).setCell ⟨g + 1, 6, none⟩ (.int .i64 y.Slice)) = X at h9 ⊢
        obtain ⟨r0, r1, r2, r3, r4, r5, r6, _, _⟩ := row7 h9.1
        have hGX := h9.2.gro hGw (fun b hb' => by simp at hb'; omega)
        have hF9 := hHx.keep h9.2 (fun b hb' hm => by simp at hm; exact hnx _ (.tail _ (.head _)) (hm ▸ hb'))
        have hF8 := hLy.keep h9.2 (fun b hb' hm => by simp at hm; exact hSLg (hm ▸ hb'))
        rw [HQ.out]
        exact bodyPost_ret (v := .tuple #[.agg #[.slice B0 y.Space.Images.length d0, .slice B1 y.Space.Bases.length d1, .slice B2 y.Space.Entries.length d2, .slice B3 y.Threads.length d3, .int .i64 y.Turn, .int .i64 y.Left, .int .i64 y.Slice], .slice A7 ts.length c7]) (by simp [results, Try.results37, go_sem, r0, r1, r2, r3, r4, r5, r6]) rfl ⟨B0, d0, B1, d1, B2, d2, B3, d3, _, _, _, _, rfl, hF9, hF8, hdd, (fun b hb2 => by have := hlx b hb2; omega), hSLw, hGX⟩
end Go.Proofs.Ytbhobjepjaeffaa
namespace Go.Proofs.Ytbhobjepjaeffaa.fnExactRunProcess
open Go.ChangeShapes Go.WideShapes Go.ChangeAt Go.RowKit
open Go.ChangeMaps (open_string shut_string)
theorem own : ownKnob Try.prog.godebug = none := by kernel_rfl
theorem laidOut : laidOutB Try.prog = true := by kernel_rfl
theorem rdProcess {w : World} {B : Nat} {x : DProcess} {A0 : Option Addr} {c0 : Nat} {A1 : Option Addr} {c1 : Nat} {A2 : Option Addr} {c2 : Nat} {A3 : Option Addr} {c3 : Nat} (h : tProcess.R w B [.slice A0 x.Space.Images.length c0, .slice A1 x.Space.Bases.length c1, .slice A2 x.Space.Entries.length c2, .slice A3 x.Threads.length c3, .int .i64 x.Turn, .int .i64 x.Left, .int .i64 x.Slice] x) : (tImage.sl 96).R w B [.slice A0 x.Space.Images.length c0] x.Space.Images ∧ (intT.sl 3).R w B [.slice A1 x.Space.Bases.length c1] x.Space.Bases ∧ (intT.sl 3).R w B [.slice A2 x.Space.Entries.length c2] x.Space.Entries ∧ (tMachine.sl 80).R w B [.slice A3 x.Threads.length c3] x.Threads ∧ I64 x.Turn ∧ I64 x.Left ∧ I64 x.Slice := by
  obtain ⟨A0', c0', A1', c1', A2', c2', A3', c3', hc, f0, f1, f2, f3, f4, f5, f6⟩ := tProcess_R h
  simp only [List.cons.injEq, Value.slice.injEq, true_and, and_true] at hc
  obtain ⟨⟨rfl, rfl⟩, ⟨rfl, rfl⟩, ⟨rfl, rfl⟩, ⟨rfl, rfl⟩⟩ := hc
  exact ⟨f0, f1, f2, f3, f4, f5, f6⟩
set_option maxRecDepth 100000 in
set_option maxHeartbeats 4000000 in
theorem walk (w : World) (cs_x : Array Value) (x : DProcess) (h_x : tProcess.R w w.heap.size cs_x.toList x) (limit : Int) (hb1_limit : -9223372036854775808 ≤ limit) (hb2_limit : limit ≤ 9223372036854775807) :
    Calls Try.prog 9 #[.agg cs_x, .int .i64 limit] w fun e w' => e = .returned (.bool true) ∧ Gro w w' := by
  obtain ⟨A0, c0, A1, c1, A2, c2, A3, c3, hcs_x, p_x0, p_x1, p_x2, p_x3, p_x4, p_x5, p_x6⟩ := tProcess_R h_x
  obtain rfl := Array.toList_inj.1 (show cs_x.toList = (#[.slice A0 x.Space.Images.length c0, .slice A1 x.Space.Bases.length c1, .slice A2 x.Space.Entries.length c2, .slice A3 x.Threads.length c3, .int .i64 x.Turn, .int .i64 x.Left, .int .i64 x.Slice] : Array Value).toList from hcs_x)
  clear h_x hcs_x
  obtain ⟨n0, hn0⟩ : ∃ n, szProcess x = n := ⟨_, rfl⟩
  by_cases hz0 : (n0 : Int) ≤ 1048576
  case neg =>
    have e0 : szRes (1048576) (szProcess x) = -1 := by rw [hn0]; exact if_neg (by omega)
    clear hn0
    go_enter Try.func9, Try.ntmps9
    go_wp2_with (fail)
    refine (szProcess_l (x := x) (Ty.up _ p_x0 (by repeat (first | with_reducible exact Gro.refl _ | with_reducible exact Gro.refl_drew _ _ _ | with_reducible exact Gro.refl_drewN _ _ _ _ | assumption | with_reducible apply Gro.more | with_reducible apply Gro.alloc | with_reducible apply Gro.drew | with_reducible apply Gro.drewN))) (Ty.up _ p_x1 (by repeat (first | with_reducible exact Gro.refl _ | with_reducible exact Gro.refl_drew _ _ _ | with_reducible exact Gro.refl_drewN _ _ _ _ | assumption | with_reducible apply Gro.more | with_reducible apply Gro.alloc | with_reducible apply Gro.drew | with_reducible apply Gro.drewN))) (Ty.up _ p_x2 (by repeat (first | with_reducible exact Gro.refl _ | with_reducible exact Gro.refl_drew _ _ _ | with_reducible exact Gro.refl_drewN _ _ _ _ | assumption | with_reducible apply Gro.more | with_reducible apply Gro.alloc | with_reducible apply Gro.drew | with_reducible apply Gro.drewN))) (Ty.up _ p_x3 (by repeat (first | with_reducible exact Gro.refl _ | with_reducible exact Gro.refl_drew _ _ _ | with_reducible exact Gro.refl_drewN _ _ _ _ | assumption | with_reducible apply Gro.more | with_reducible apply Gro.alloc | with_reducible apply Gro.drew | with_reducible apply Gro.drewN))) (by omega) (by omega)).mono ?_
    rintro e w1 ⟨rfl, os0, d0, rfl⟩
    go_wp2
    go_ret
    exact ⟨rfl, (by repeat (first | with_reducible exact Gro.refl _ | with_reducible exact Gro.refl_drew _ _ _ | with_reducible exact Gro.refl_drewN _ _ _ _ | assumption | with_reducible apply Gro.more | with_reducible apply Gro.alloc | with_reducible apply Gro.drew | with_reducible apply Gro.drewN))⟩
  have e0 : szRes (1048576) (szProcess x) = 1048576 - (n0 : Int) := by rw [hn0]; exact if_pos (by omega)
  have hl_x0 : x.Space.Images.length ≤ 1048576 := by have h := hn0; unfold szProcess szSpace at h; have := szL_len szImage x.Space.Images; omega
  have hl_x1 : x.Space.Bases.length ≤ 1048576 := by have h := hn0; unfold szProcess szSpace at h; omega
  have hl_x2 : x.Space.Entries.length ≤ 1048576 := by have h := hn0; unfold szProcess szSpace at h; omega
  have hl_x3 : x.Threads.length ≤ 1048576 := by have h := hn0; unfold szProcess szSpace at h; have := szL_len szMachine x.Threads; omega
  have hs_x : szProcess x ≤ 1048576 := by omega
  have hcnt_x : cntProcess x ≤ 8388608 := by have := cntProcess_sz x; omega
  have HN0 := Lib.hid hn0
  clear hn0
  obtain ⟨p, hp, hpb0, hpb1, hpb2, hpb3⟩ : ∃ p, Hid (runP x limit = p) ∧ p.2.length ≤ 3000 ∧ szProcess p.1 ≤ 1052180 ∧ cntProcess p.1 ≤ 5260900 ∧ p.1.Space.Images.length ≤ 1052180 ∧ p.1.Space.Bases.length ≤ 1052180 ∧ p.1.Space.Entries.length ≤ 1052180 ∧ p.1.Threads.length ≤ 1052180 := ⟨_, Lib.hid rfl, (runP_sz x limit).2, by have := runP_sz x limit; omega, by have := runP_sz x limit; have := cntProcess_sz (runP x limit).1; omega, by have := runP_sz x limit; have := process_lens2 (runP x limit).1; omega⟩
  go_enter Try.func9, Try.ntmps9
  go_wp2_with (fail)
  refine (szProcess_l (x := x) (Ty.up _ p_x0 (by repeat (first | with_reducible exact Gro.refl _ | with_reducible exact Gro.refl_drew _ _ _ | with_reducible exact Gro.refl_drewN _ _ _ _ | assumption | with_reducible apply Gro.more | with_reducible apply Gro.alloc | with_reducible apply Gro.drew | with_reducible apply Gro.drewN))) (Ty.up _ p_x1 (by repeat (first | with_reducible exact Gro.refl _ | with_reducible exact Gro.refl_drew _ _ _ | with_reducible exact Gro.refl_drewN _ _ _ _ | assumption | with_reducible apply Gro.more | with_reducible apply Gro.alloc | with_reducible apply Gro.drew | with_reducible apply Gro.drewN))) (Ty.up _ p_x2 (by repeat (first | with_reducible exact Gro.refl _ | with_reducible exact Gro.refl_drew _ _ _ | with_reducible exact Gro.refl_drewN _ _ _ _ | assumption | with_reducible apply Gro.more | with_reducible apply Gro.alloc | with_reducible apply Gro.drew | with_reducible apply Gro.drewN))) (Ty.up _ p_x3 (by repeat (first | with_reducible exact Gro.refl _ | with_reducible exact Gro.refl_drew _ _ _ | with_reducible exact Gro.refl_drewN _ _ _ _ | assumption | with_reducible apply Gro.more | with_reducible apply Gro.alloc | with_reducible apply Gro.drew | with_reducible apply Gro.drewN))) (by omega) (by omega)).mono ?_
  rintro e w1 ⟨rfl, os0, d0, rfl⟩
  go_wp2_with (fail)
  refine (toProcess_l (x := x) (Ty.up _ p_x0 (by repeat (first | with_reducible exact Gro.refl _ | with_reducible exact Gro.refl_drew _ _ _ | with_reducible exact Gro.refl_drewN _ _ _ _ | assumption | with_reducible apply Gro.more | with_reducible apply Gro.alloc | with_reducible apply Gro.drew | with_reducible apply Gro.drewN))) (Ty.up _ p_x1 (by repeat (first | with_reducible exact Gro.refl _ | with_reducible exact Gro.refl_drew _ _ _ | with_reducible exact Gro.refl_drewN _ _ _ _ | assumption | with_reducible apply Gro.more | with_reducible apply Gro.alloc | with_reducible apply Gro.drew | with_reducible apply Gro.drewN))) (Ty.up _ p_x2 (by repeat (first | with_reducible exact Gro.refl _ | with_reducible exact Gro.refl_drew _ _ _ | with_reducible exact Gro.refl_drewN _ _ _ _ | assumption | with_reducible apply Gro.more | with_reducible apply Gro.alloc | with_reducible apply Gro.drew | with_reducible apply Gro.drewN))) (Ty.up _ p_x3 (by repeat (first | with_reducible exact Gro.refl _ | with_reducible exact Gro.refl_drew _ _ _ | with_reducible exact Gro.refl_drewN _ _ _ _ | assumption | with_reducible apply Gro.more | with_reducible apply Gro.alloc | with_reducible apply Gro.drew | with_reducible apply Gro.drewN))) p_x4 p_x5 p_x6 (by omega)).mono ?_
  rintro e w1 ⟨A2_0, c2_0, A2_1, c2_1, A2_2, c2_2, A2_3, c2_3, rfl, hF2, os2, d2, rfl⟩
  go_wp2_with (fail)
  refine (runP_s (x := x) (limit := limit) (Ty.up _ (rdProcess hF2.read).1 (by repeat (first | with_reducible exact Gro.refl _ | with_reducible exact Gro.refl_drew _ _ _ | with_reducible exact Gro.refl_drewN _ _ _ _ | assumption | with_reducible apply Gro.more | with_reducible apply Gro.alloc | with_reducible apply Gro.drew | with_reducible apply Gro.drewN))) (Ty.up _ (rdProcess hF2.read).2.1 (by repeat (first | with_reducible exact Gro.refl _ | with_reducible exact Gro.refl_drew _ _ _ | with_reducible exact Gro.refl_drewN _ _ _ _ | assumption | with_reducible apply Gro.more | with_reducible apply Gro.alloc | with_reducible apply Gro.drew | with_reducible apply Gro.drewN))) (Ty.up _ (rdProcess hF2.read).2.2.1 (by repeat (first | with_reducible exact Gro.refl _ | with_reducible exact Gro.refl_drew _ _ _ | with_reducible exact Gro.refl_drewN _ _ _ _ | assumption | with_reducible apply Gro.more | with_reducible apply Gro.alloc | with_reducible apply Gro.drew | with_reducible apply Gro.drewN))) (Ty.up _ (rdProcess hF2.read).2.2.2.1 (by repeat (first | with_reducible exact Gro.refl _ | with_reducible exact Gro.refl_drew _ _ _ | with_reducible exact Gro.refl_drewN _ _ _ _ | assumption | with_reducible apply Gro.more | with_reducible apply Gro.alloc | with_reducible apply Gro.drew | with_reducible apply Gro.drewN))) (rdProcess hF2.read).2.2.2.2.1 (rdProcess hF2.read).2.2.2.2.2.1 (rdProcess hF2.read).2.2.2.2.2.2 ⟨hb1_limit, hb2_limit⟩ (by have := HN0.out; omega)).mono ?_
  rw [hp.out]
  rintro e w1 ⟨B3_0, e3_0, B3_1, e3_1, B3_2, e3_2, B3_3, e3_3, B3_4, e3_4, S_w0, S_w1, rfl, hH_w0, hH_w1, hD_w, hL_w0, hL_w1, os3, d3, rfl⟩
  have hR3 := hH_w0.fresh hL_w0
  have hQ3 := hH_w1.fresh hL_w1
  go_wp2_with (fail)
  refine (toProcess_l (x := x) (Ty.up _ p_x0 (by repeat (first | with_reducible exact Gro.refl _ | with_reducible exact Gro.refl_drew _ _ _ | with_reducible exact Gro.refl_drewN _ _ _ _ | assumption | with_reducible apply Gro.more | with_reducible apply Gro.alloc | with_reducible apply Gro.drew | with_reducible apply Gro.drewN))) (Ty.up _ p_x1 (by repeat (first | with_reducible exact Gro.refl _ | with_reducible exact Gro.refl_drew _ _ _ | with_reducible exact Gro.refl_drewN _ _ _ _ | assumption | with_reducible apply Gro.more | with_reducible apply Gro.alloc | with_reducible apply Gro.drew | with_reducible apply Gro.drewN))) (Ty.up _ p_x2 (by repeat (first | with_reducible exact Gro.refl _ | with_reducible exact Gro.refl_drew _ _ _ | with_reducible exact Gro.refl_drewN _ _ _ _ | assumption | with_reducible apply Gro.more | with_reducible apply Gro.alloc | with_reducible apply Gro.drew | with_reducible apply Gro.drewN))) (Ty.up _ p_x3 (by repeat (first | with_reducible exact Gro.refl _ | with_reducible exact Gro.refl_drew _ _ _ | with_reducible exact Gro.refl_drewN _ _ _ _ | assumption | with_reducible apply Gro.more | with_reducible apply Gro.alloc | with_reducible apply Gro.drew | with_reducible apply Gro.drewN))) p_x4 p_x5 p_x6 (by omega)).mono ?_
  rintro e w1 ⟨A4_0, c4_0, A4_1, c4_1, A4_2, c4_2, A4_3, c4_3, rfl, hF4, os4, d4, rfl⟩
  go_wp2_with (fail)
  refine (runP_i (x := x) (limit := limit) (Ty.up _ (rdProcess hF4.read).1 (by repeat (first | with_reducible exact Gro.refl _ | with_reducible exact Gro.refl_drew _ _ _ | with_reducible exact Gro.refl_drewN _ _ _ _ | assumption | with_reducible apply Gro.more | with_reducible apply Gro.alloc | with_reducible apply Gro.drew | with_reducible apply Gro.drewN))) (Ty.up _ (rdProcess hF4.read).2.1 (by repeat (first | with_reducible exact Gro.refl _ | with_reducible exact Gro.refl_drew _ _ _ | with_reducible exact Gro.refl_drewN _ _ _ _ | assumption | with_reducible apply Gro.more | with_reducible apply Gro.alloc | with_reducible apply Gro.drew | with_reducible apply Gro.drewN))) (Ty.up _ (rdProcess hF4.read).2.2.1 (by repeat (first | with_reducible exact Gro.refl _ | with_reducible exact Gro.refl_drew _ _ _ | with_reducible exact Gro.refl_drewN _ _ _ _ | assumption | with_reducible apply Gro.more | with_reducible apply Gro.alloc | with_reducible apply Gro.drew | with_reducible apply Gro.drewN))) (Ty.up _ (rdProcess hF4.read).2.2.2.1 (by repeat (first | with_reducible exact Gro.refl _ | with_reducible exact Gro.refl_drew _ _ _ | with_reducible exact Gro.refl_drewN _ _ _ _ | assumption | with_reducible apply Gro.more | with_reducible apply Gro.alloc | with_reducible apply Gro.drew | with_reducible apply Gro.drewN))) (rdProcess hF4.read).2.2.2.2.1 (rdProcess hF4.read).2.2.2.2.2.1 (rdProcess hF4.read).2.2.2.2.2.2 ⟨hb1_limit, hb2_limit⟩ (by have := HN0.out; omega)).mono ?_
  rw [hp.out]
  rintro e w1 ⟨B5_0, e5_0, B5_1, e5_1, B5_2, e5_2, B5_3, e5_3, B5_4, e5_4, S_g0, S_g1, rfl, hH_g0, hH_g1, hD_g, hL_g0, hL_g1, os5, d5, rfl⟩
  have hR5 := hH_g0.fresh hL_g0
  have hQ5 := hH_g1.fresh hL_g1
  go_wp2_with (fail)
  refine (eqProcess_l (x := p.1) (y := p.1) (Ty.up _ (rdProcess hR5.read).1 (by repeat (first | with_reducible exact Gro.refl _ | with_reducible exact Gro.refl_drew _ _ _ | with_reducible exact Gro.refl_drewN _ _ _ _ | assumption | with_reducible apply Gro.more | with_reducible apply Gro.alloc | with_reducible apply Gro.drew | with_reducible apply Gro.drewN))) (Ty.up _ (rdProcess hR5.read).2.1 (by repeat (first | with_reducible exact Gro.refl _ | with_reducible exact Gro.refl_drew _ _ _ | with_reducible exact Gro.refl_drewN _ _ _ _ | assumption | with_reducible apply Gro.more | with_reducible apply Gro.alloc | with_reducible apply Gro.drew | with_reducible apply Gro.drewN))) (Ty.up _ (rdProcess hR5.read).2.2.1 (by repeat (first | with_reducible exact Gro.refl _ | with_reducible exact Gro.refl_drew _ _ _ | with_reducible exact Gro.refl_drewN _ _ _ _ | assumption | with_reducible apply Gro.more | with_reducible apply Gro.alloc | with_reducible apply Gro.drew | with_reducible apply Gro.drewN))) (Ty.up _ (rdProcess hR5.read).2.2.2.1 (by repeat (first | with_reducible exact Gro.refl _ | with_reducible exact Gro.refl_drew _ _ _ | with_reducible exact Gro.refl_drewN _ _ _ _ | assumption | with_reducible apply Gro.more | with_reducible apply Gro.alloc | with_reducible apply Gro.drew | with_reducible apply Gro.drewN))) (Ty.up _ (rdProcess hR3.read).1 (by repeat (first | with_reducible exact Gro.refl _ | with_reducible exact Gro.refl_drew _ _ _ | with_reducible exact Gro.refl_drewN _ _ _ _ | assumption | with_reducible apply Gro.more | with_reducible apply Gro.alloc | with_reducible apply Gro.drew | with_reducible apply Gro.drewN))) (Ty.up _ (rdProcess hR3.read).2.1 (by repeat (first | with_reducible exact Gro.refl _ | with_reducible exact Gro.refl_drew _ _ _ | with_reducible exact Gro.refl_drewN _ _ _ _ | assumption | with_reducible apply Gro.more | with_reducible apply Gro.alloc | with_reducible apply Gro.drew | with_reducible apply Gro.drewN))) (Ty.up _ (rdProcess hR3.read).2.2.1 (by repeat (first | with_reducible exact Gro.refl _ | with_reducible exact Gro.refl_drew _ _ _ | with_reducible exact Gro.refl_drewN _ _ _ _ | assumption | with_reducible apply Gro.more | with_reducible apply Gro.alloc | with_reducible apply Gro.drew | with_reducible apply Gro.drewN))) (Ty.up _ (rdProcess hR3.read).2.2.2.1 (by repeat (first | with_reducible exact Gro.refl _ | with_reducible exact Gro.refl_drew _ _ _ | with_reducible exact Gro.refl_drewN _ _ _ _ | assumption | with_reducible apply Gro.more | with_reducible apply Gro.alloc | with_reducible apply Gro.drew | with_reducible apply Gro.drewN)))).mono ?_
  rintro e w1 ⟨rfl, os6, d6, rfl⟩
  go_wp2_with (fail)
  refine (eqIntS_l (xs := p.2) (ys := p.2) (Ty.up _ (hQ5.read) (by repeat (first | with_reducible exact Gro.refl _ | with_reducible exact Gro.refl_drew _ _ _ | with_reducible exact Gro.refl_drewN _ _ _ _ | assumption | with_reducible apply Gro.more | with_reducible apply Gro.alloc | with_reducible apply Gro.drew | with_reducible apply Gro.drewN))) (Ty.up _ (hQ3.read) (by repeat (first | with_reducible exact Gro.refl _ | with_reducible exact Gro.refl_drew _ _ _ | with_reducible exact Gro.refl_drewN _ _ _ _ | assumption | with_reducible apply Gro.more | with_reducible apply Gro.alloc | with_reducible apply Gro.drew | with_reducible apply Gro.drewN)))).mono ?_
  rintro e w1 ⟨rfl, ose1, de1, rfl⟩
  go_wp2_with (fail)
  go_region_held3 (fun w' => w'.cell? ⟨w.heap.size + 1 + os0.size + os2.size + os3.size + 1 + os4.size, 0, none⟩ = some (.slice A4_0 x.Space.Images.length c4_0) ∧ w'.cell? ⟨w.heap.size + 1 + os0.size + os2.size + os3.size + 1 + os4.size, 1, none⟩ = some (.slice A4_1 x.Space.Bases.length c4_1) ∧ w'.cell? ⟨w.heap.size + 1 + os0.size + os2.size + os3.size + 1 + os4.size, 2, none⟩ = some (.slice A4_2 x.Space.Entries.length c4_2) ∧ w'.cell? ⟨w.heap.size + 1 + os0.size + os2.size + os3.size + 1 + os4.size, 3, none⟩ = some (.slice A4_3 x.Threads.length c4_3) ∧ w'.cell? ⟨w.heap.size + 1 + os0.size + os2.size + os3.size + 1 + os4.size, 4, none⟩ = some (.int .i64 x.Turn) ∧ w'.cell? ⟨w.heap.size + 1 + os0.size + os2.size + os3.size + 1 + os4.size, 5, none⟩ = some (.int .i64 x.Left) ∧ w'.cell? ⟨w.heap.size + 1 + os0.size + os2.size + os3.size + 1 + os4.size, 6, none⟩ = some (.int .i64 x.Slice) ∧ w'.cell? ⟨w.heap.size, 0, none⟩ = some (.slice A0 x.Space.Images.length c0) ∧ w'.cell? ⟨w.heap.size, 1, none⟩ = some (.slice A1 x.Space.Bases.length c1) ∧ w'.cell? ⟨w.heap.size, 2, none⟩ = some (.slice A2 x.Space.Entries.length c2) ∧ w'.cell? ⟨w.heap.size, 3, none⟩ = some (.slice A3 x.Threads.length c3) ∧ w'.cell? ⟨w.heap.size, 4, none⟩ = some (.int .i64 x.Turn) ∧ w'.cell? ⟨w.heap.size, 5, none⟩ = some (.int .i64 x.Left) ∧ w'.cell? ⟨w.heap.size, 6, none⟩ = some (.int .i64 x.Slice)) (simp [go_sem]) (first
      | (go_at_call 12; refine (toProcess_l (x := x) (Ty.up _ p_x0 (by repeat (first | with_reducible exact Gro.refl _ | with_reducible exact Gro.refl_drew _ _ _ | with_reducible exact Gro.refl_drewN _ _ _ _ | assumption | with_reducible apply Gro.more | with_reducible apply Gro.alloc | with_reducible apply Gro.drew | with_reducible apply Gro.drewN))) (Ty.up _ p_x1 (by repeat (first | with_reducible exact Gro.refl _ | with_reducible exact Gro.refl_drew _ _ _ | with_reducible exact Gro.refl_drewN _ _ _ _ | assumption | with_reducible apply Gro.more | with_reducible apply Gro.alloc | with_reducible apply Gro.drew | with_reducible apply Gro.drewN))) (Ty.up _ p_x2 (by repeat (first | with_reducible exact Gro.refl _ | with_reducible exact Gro.refl_drew _ _ _ | with_reducible exact Gro.refl_drewN _ _ _ _ | assumption | with_reducible apply Gro.more | with_reducible apply Gro.alloc | with_reducible apply Gro.drew | with_reducible apply Gro.drewN))) (Ty.up _ p_x3 (by repeat (first | with_reducible exact Gro.refl _ | with_reducible exact Gro.refl_drew _ _ _ | with_reducible exact Gro.refl_drewN _ _ _ _ | assumption | with_reducible apply Gro.more | with_reducible apply Gro.alloc | with_reducible apply Gro.drew | with_reducible apply Gro.drewN))) p_x4 p_x5 p_x6 (by omega)).mono ?_; rintro e w1 ⟨A7_0, c7_0, A7_1, c7_1, A7_2, c7_2, A7_3, c7_3, rfl, hF7, os7, d7, rfl⟩)
      | (go_at_call 14; refine (eqProcess_l (x := x) (y := x) (Ty.up _ (rdProcess hF4.read).1 (by repeat (first | with_reducible exact Gro.refl _ | with_reducible exact Gro.refl_drew _ _ _ | with_reducible exact Gro.refl_drewN _ _ _ _ | assumption | with_reducible apply Gro.more | with_reducible apply Gro.alloc | with_reducible apply Gro.drew | with_reducible apply Gro.drewN))) (Ty.up _ (rdProcess hF4.read).2.1 (by repeat (first | with_reducible exact Gro.refl _ | with_reducible exact Gro.refl_drew _ _ _ | with_reducible exact Gro.refl_drewN _ _ _ _ | assumption | with_reducible apply Gro.more | with_reducible apply Gro.alloc | with_reducible apply Gro.drew | with_reducible apply Gro.drewN))) (Ty.up _ (rdProcess hF4.read).2.2.1 (by repeat (first | with_reducible exact Gro.refl _ | with_reducible exact Gro.refl_drew _ _ _ | with_reducible exact Gro.refl_drewN _ _ _ _ | assumption | with_reducible apply Gro.more | with_reducible apply Gro.alloc | with_reducible apply Gro.drew | with_reducible apply Gro.drewN))) (Ty.up _ (rdProcess hF4.read).2.2.2.1 (by repeat (first | with_reducible exact Gro.refl _ | with_reducible exact Gro.refl_drew _ _ _ | with_reducible exact Gro.refl_drewN _ _ _ _ | assumption | with_reducible apply Gro.more | with_reducible apply Gro.alloc | with_reducible apply Gro.drew | with_reducible apply Gro.drewN))) (Ty.up _ (rdProcess hF7.read).1 (by repeat (first | with_reducible exact Gro.refl _ | with_reducible exact Gro.refl_drew _ _ _ | with_reducible exact Gro.refl_drewN _ _ _ _ | assumption | with_reducible apply Gro.more | with_reducible apply Gro.alloc | with_reducible apply Gro.drew | with_reducible apply Gro.drewN))) (Ty.up _ (rdProcess hF7.read).2.1 (by repeat (first | with_reducible exact Gro.refl _ | with_reducible exact Gro.refl_drew _ _ _ | with_reducible exact Gro.refl_drewN _ _ _ _ | assumption | with_reducible apply Gro.more | with_reducible apply Gro.alloc | with_reducible apply Gro.drew | with_reducible apply Gro.drewN))) (Ty.up _ (rdProcess hF7.read).2.2.1 (by repeat (first | with_reducible exact Gro.refl _ | with_reducible exact Gro.refl_drew _ _ _ | with_reducible exact Gro.refl_drewN _ _ _ _ | assumption | with_reducible apply Gro.more | with_reducible apply Gro.alloc | with_reducible apply Gro.drew | with_reducible apply Gro.drewN))) (Ty.up _ (rdProcess hF7.read).2.2.2.1 (by repeat (first | with_reducible exact Gro.refl _ | with_reducible exact Gro.refl_drew _ _ _ | with_reducible exact Gro.refl_drewN _ _ _ _ | assumption | with_reducible apply Gro.more | with_reducible apply Gro.alloc | with_reducible apply Gro.drew | with_reducible apply Gro.drewN)))).mono ?_; rintro e w1 ⟨rfl, os8, d8, rfl⟩))
  go_wp2_with (fail)
  have hO_w0 := hH_w0.1
  have hN_w0 := hH_w0.2
  have hO_w1 := hH_w1.1
  have hN_w1 := hH_w1.2
  have hU_w1 := Ty.ltO _ hO_w1
  have hU_w0 := Ty.ltO _ hO_w0
  obtain ⟨S_x_x, hO_x_x, hN_x_x, hL_x_x⟩ := hF4
  have hU_x_x := Ty.ltO _ hO_x_x
  have hO_g0 := hH_g0.1
  have hN_g0 := hH_g0.2
  have hO_g1 := hH_g1.1
  have hN_g1 := hH_g1.2
  have hU_g1 := Ty.ltO _ hO_g1
  have hU_g0 := Ty.ltO _ hO_g0
  go_wp2_with (fail)
  refine (markProcess_l (x := x) (Ty.groO _ hO_x_x (by repeat (first | with_reducible exact Gro.refl _ | with_reducible exact Gro.refl_drew _ _ _ | with_reducible exact Gro.refl_drewN _ _ _ _ | assumption | with_reducible apply Gro.more | with_reducible apply Gro.alloc | with_reducible apply Gro.drew | with_reducible apply Gro.drewN))) hN_x_x (by omega) (by omega)).mono ?_
  rintro e w9 ⟨rfl, hM_x_x, hS9⟩
  have hO_w0_9 := keepOnly _ hO_w0 hS9 (by repeat (first | with_reducible exact Gro.refl _ | with_reducible exact Gro.refl_drew _ _ _ | with_reducible exact Gro.refl_drewN _ _ _ _ | assumption | with_reducible apply Gro.more | with_reducible apply Gro.alloc | with_reducible apply Gro.drew | with_reducible apply Gro.drewN)) (fun b hb hm => by have q1 := hU_w0 b hb; have q2 := hL_x_x b hm; simp at q1 q2; omega)
  have hO_g0_9 := keepOnly _ hO_g0 hS9 (by repeat (first | with_reducible exact Gro.refl _ | with_reducible exact Gro.refl_drew _ _ _ | with_reducible exact Gro.refl_drewN _ _ _ _ | assumption | with_reducible apply Gro.more | with_reducible apply Gro.alloc | with_reducible apply Gro.drew | with_reducible apply Gro.drewN)) (fun b hb hm => by have q1 := hL_g0 b hb; have q2 := hU_x_x b hm; simp at q1 q2; omega)
  have hO_w1_9 := keepOnly _ hO_w1 hS9 (by repeat (first | with_reducible exact Gro.refl _ | with_reducible exact Gro.refl_drew _ _ _ | with_reducible exact Gro.refl_drewN _ _ _ _ | assumption | with_reducible apply Gro.more | with_reducible apply Gro.alloc | with_reducible apply Gro.drew | with_reducible apply Gro.drewN)) (fun b hb hm => by have q1 := hU_w1 b hb; have q2 := hL_x_x b hm; simp at q1 q2; omega)
  have hO_g1_9 := keepOnly _ hO_g1 hS9 (by repeat (first | with_reducible exact Gro.refl _ | with_reducible exact Gro.refl_drew _ _ _ | with_reducible exact Gro.refl_drewN _ _ _ _ | assumption | with_reducible apply Gro.more | with_reducible apply Gro.alloc | with_reducible apply Gro.drew | with_reducible apply Gro.drewN)) (fun b hb hm => by have q1 := hL_g1 b hb; have q2 := hU_x_x b hm; simp at q1 q2; omega)
  have hc9_x_0 : w9.cell? ⟨w.heap.size, 0, none⟩ = some (.slice A0 x.Space.Images.length c0) := (hS9.cell (by simp <;> omega) (fun hm => by have q1 := hL_x_x _ hm; simp at q1 <;> omega) 0).trans (by simp [go_sem])
  have hc9_x_1 : w9.cell? ⟨w.heap.size, 1, none⟩ = some (.slice A1 x.Space.Bases.length c1) := (hS9.cell (by simp <;> omega) (fun hm => by have q1 := hL_x_x _ hm; simp at q1 <;> omega) 1).trans (by simp [go_sem])
  have hc9_x_2 : w9.cell? ⟨w.heap.size, 2, none⟩ = some (.slice A2 x.Space.Entries.length c2) := (hS9.cell (by simp <;> omega) (fun hm => by have q1 := hL_x_x _ hm; simp at q1 <;> omega) 2).trans (by simp [go_sem])
  have hc9_x_3 : w9.cell? ⟨w.heap.size, 3, none⟩ = some (.slice A3 x.Threads.length c3) := (hS9.cell (by simp <;> omega) (fun hm => by have q1 := hL_x_x _ hm; simp at q1 <;> omega) 3).trans (by simp [go_sem])
  have hc9_x_4 : w9.cell? ⟨w.heap.size, 4, none⟩ = some (.int .i64 x.Turn) := (hS9.cell (by simp <;> omega) (fun hm => by have q1 := hL_x_x _ hm; simp at q1 <;> omega) 4).trans (by simp [go_sem])
  have hc9_x_5 : w9.cell? ⟨w.heap.size, 5, none⟩ = some (.int .i64 x.Left) := (hS9.cell (by simp <;> omega) (fun hm => by have q1 := hL_x_x _ hm; simp at q1 <;> omega) 5).trans (by simp [go_sem])
  have hc9_x_6 : w9.cell? ⟨w.heap.size, 6, none⟩ = some (.int .i64 x.Slice) := (hS9.cell (by simp <;> omega) (fun hm => by have q1 := hL_x_x _ hm; simp at q1 <;> omega) 6).trans (by simp [go_sem])
  have hcb_x : w.heap.size < w9.heap.size := Nat.lt_of_lt_of_le (by simp <;> omega) hS9.size
  have hc9_w0_0 : w9.cell? ⟨w.heap.size + 1 + os0.size + os2.size + os3.size, 0, none⟩ = some (.slice B3_0 p.1.Space.Images.length e3_0) := (hS9.cell (by simp <;> omega) (fun hm => by have q1 := hL_x_x _ hm; simp at q1 <;> omega) 0).trans (by simp [go_sem])
  have hc9_w0_1 : w9.cell? ⟨w.heap.size + 1 + os0.size + os2.size + os3.size, 1, none⟩ = some (.slice B3_1 p.1.Space.Bases.length e3_1) := (hS9.cell (by simp <;> omega) (fun hm => by have q1 := hL_x_x _ hm; simp at q1 <;> omega) 1).trans (by simp [go_sem])
  have hc9_w0_2 : w9.cell? ⟨w.heap.size + 1 + os0.size + os2.size + os3.size, 2, none⟩ = some (.slice B3_2 p.1.Space.Entries.length e3_2) := (hS9.cell (by simp <;> omega) (fun hm => by have q1 := hL_x_x _ hm; simp at q1 <;> omega) 2).trans (by simp [go_sem])
  have hc9_w0_3 : w9.cell? ⟨w.heap.size + 1 + os0.size + os2.size + os3.size, 3, none⟩ = some (.slice B3_3 p.1.Threads.length e3_3) := (hS9.cell (by simp <;> omega) (fun hm => by have q1 := hL_x_x _ hm; simp at q1 <;> omega) 3).trans (by simp [go_sem])
  have hc9_w0_4 : w9.cell? ⟨w.heap.size + 1 + os0.size + os2.size + os3.size, 4, none⟩ = some (.int .i64 p.1.Turn) := (hS9.cell (by simp <;> omega) (fun hm => by have q1 := hL_x_x _ hm; simp at q1 <;> omega) 4).trans (by simp [go_sem])
  have hc9_w0_5 : w9.cell? ⟨w.heap.size + 1 + os0.size + os2.size + os3.size, 5, none⟩ = some (.int .i64 p.1.Left) := (hS9.cell (by simp <;> omega) (fun hm => by have q1 := hL_x_x _ hm; simp at q1 <;> omega) 5).trans (by simp [go_sem])
  have hc9_w0_6 : w9.cell? ⟨w.heap.size + 1 + os0.size + os2.size + os3.size, 6, none⟩ = some (.int .i64 p.1.Slice) := (hS9.cell (by simp <;> omega) (fun hm => by have q1 := hL_x_x _ hm; simp at q1 <;> omega) 6).trans (by simp [go_sem])
  have hcb_w0 : w.heap.size + 1 + os0.size + os2.size + os3.size < w9.heap.size := Nat.lt_of_lt_of_le (by simp <;> omega) hS9.size
  have hc9_g0_0 : w9.cell? ⟨w.heap.size + 1 + os0.size + os2.size + os3.size + 1 + os4.size + 1 + os5.size, 0, none⟩ = some (.slice B5_0 p.1.Space.Images.length e5_0) := (hS9.cell (by simp <;> omega) (fun hm => by have q1 := hU_x_x _ hm; simp at q1 <;> omega) 0).trans (by simp [go_sem])
  have hc9_g0_1 : w9.cell? ⟨w.heap.size + 1 + os0.size + os2.size + os3.size + 1 + os4.size + 1 + os5.size, 1, none⟩ = some (.slice B5_1 p.1.Space.Bases.length e5_1) := (hS9.cell (by simp <;> omega) (fun hm => by have q1 := hU_x_x _ hm; simp at q1 <;> omega) 1).trans (by simp [go_sem])
  have hc9_g0_2 : w9.cell? ⟨w.heap.size + 1 + os0.size + os2.size + os3.size + 1 + os4.size + 1 + os5.size, 2, none⟩ = some (.slice B5_2 p.1.Space.Entries.length e5_2) := (hS9.cell (by simp <;> omega) (fun hm => by have q1 := hU_x_x _ hm; simp at q1 <;> omega) 2).trans (by simp [go_sem])
  have hc9_g0_3 : w9.cell? ⟨w.heap.size + 1 + os0.size + os2.size + os3.size + 1 + os4.size + 1 + os5.size, 3, none⟩ = some (.slice B5_3 p.1.Threads.length e5_3) := (hS9.cell (by simp <;> omega) (fun hm => by have q1 := hU_x_x _ hm; simp at q1 <;> omega) 3).trans (by simp [go_sem])
  have hc9_g0_4 : w9.cell? ⟨w.heap.size + 1 + os0.size + os2.size + os3.size + 1 + os4.size + 1 + os5.size, 4, none⟩ = some (.int .i64 p.1.Turn) := (hS9.cell (by simp <;> omega) (fun hm => by have q1 := hU_x_x _ hm; simp at q1 <;> omega) 4).trans (by simp [go_sem])
  have hc9_g0_5 : w9.cell? ⟨w.heap.size + 1 + os0.size + os2.size + os3.size + 1 + os4.size + 1 + os5.size, 5, none⟩ = some (.int .i64 p.1.Left) := (hS9.cell (by simp <;> omega) (fun hm => by have q1 := hU_x_x _ hm; simp at q1 <;> omega) 5).trans (by simp [go_sem])
  have hc9_g0_6 : w9.cell? ⟨w.heap.size + 1 + os0.size + os2.size + os3.size + 1 + os4.size + 1 + os5.size, 6, none⟩ = some (.int .i64 p.1.Slice) := (hS9.cell (by simp <;> omega) (fun hm => by have q1 := hU_x_x _ hm; simp at q1 <;> omega) 6).trans (by simp [go_sem])
  have hcb_g0 : w.heap.size + 1 + os0.size + os2.size + os3.size + 1 + os4.size + 1 + os5.size < w9.heap.size := Nat.lt_of_lt_of_le (by simp <;> omega) hS9.size
  obtain ⟨os9, d9, rfl⟩ := hS9.gro (W0 := w) (by repeat (first | with_reducible exact Gro.refl _ | with_reducible exact Gro.refl_drew _ _ _ | with_reducible exact Gro.refl_drewN _ _ _ _ | assumption | with_reducible apply Gro.more | with_reducible apply Gro.alloc | with_reducible apply Gro.drew | with_reducible apply Gro.drewN)) (fun b hb => by have q1 := hL_x_x b hb; simp at q1; omega)
  clear hS9
  simp at hcb_x
  simp at hcb_w0
  simp at hcb_g0
  go_wp2_with (fail)
  refine (eqProcess_l (x := p.1) (y := p.1) (Ty.up _ (rdProcess (Ty.read _ hO_g0_9)).1 (by repeat (first | with_reducible exact Gro.refl _ | with_reducible exact Gro.refl_drew _ _ _ | with_reducible exact Gro.refl_drewN _ _ _ _ | assumption | with_reducible apply Gro.more | with_reducible apply Gro.alloc | with_reducible apply Gro.drew | with_reducible apply Gro.drewN))) (Ty.up _ (rdProcess (Ty.read _ hO_g0_9)).2.1 (by repeat (first | with_reducible exact Gro.refl _ | with_reducible exact Gro.refl_drew _ _ _ | with_reducible exact Gro.refl_drewN _ _ _ _ | assumption | with_reducible apply Gro.more | with_reducible apply Gro.alloc | with_reducible apply Gro.drew | with_reducible apply Gro.drewN))) (Ty.up _ (rdProcess (Ty.read _ hO_g0_9)).2.2.1 (by repeat (first | with_reducible exact Gro.refl _ | with_reducible exact Gro.refl_drew _ _ _ | with_reducible exact Gro.refl_drewN _ _ _ _ | assumption | with_reducible apply Gro.more | with_reducible apply Gro.alloc | with_reducible apply Gro.drew | with_reducible apply Gro.drewN))) (Ty.up _ (rdProcess (Ty.read _ hO_g0_9)).2.2.2.1 (by repeat (first | with_reducible exact Gro.refl _ | with_reducible exact Gro.refl_drew _ _ _ | with_reducible exact Gro.refl_drewN _ _ _ _ | assumption | with_reducible apply Gro.more | with_reducible apply Gro.alloc | with_reducible apply Gro.drew | with_reducible apply Gro.drewN))) (Ty.up _ (rdProcess (Ty.read _ hO_w0_9)).1 (by repeat (first | with_reducible exact Gro.refl _ | with_reducible exact Gro.refl_drew _ _ _ | with_reducible exact Gro.refl_drewN _ _ _ _ | assumption | with_reducible apply Gro.more | with_reducible apply Gro.alloc | with_reducible apply Gro.drew | with_reducible apply Gro.drewN))) (Ty.up _ (rdProcess (Ty.read _ hO_w0_9)).2.1 (by repeat (first | with_reducible exact Gro.refl _ | with_reducible exact Gro.refl_drew _ _ _ | with_reducible exact Gro.refl_drewN _ _ _ _ | assumption | with_reducible apply Gro.more | with_reducible apply Gro.alloc | with_reducible apply Gro.drew | with_reducible apply Gro.drewN))) (Ty.up _ (rdProcess (Ty.read _ hO_w0_9)).2.2.1 (by repeat (first | with_reducible exact Gro.refl _ | with_reducible exact Gro.refl_drew _ _ _ | with_reducible exact Gro.refl_drewN _ _ _ _ | assumption | with_reducible apply Gro.more | with_reducible apply Gro.alloc | with_reducible apply Gro.drew | with_reducible apply Gro.drewN))) (Ty.up _ (rdProcess (Ty.read _ hO_w0_9)).2.2.2.1 (by repeat (first | with_reducible exact Gro.refl _ | with_reducible exact Gro.refl_drew _ _ _ | with_reducible exact Gro.refl_drewN _ _ _ _ | assumption | with_reducible apply Gro.more | with_reducible apply Gro.alloc | with_reducible apply Gro.drew | with_reducible apply Gro.drewN)))).mono ?_
  rintro e w1 ⟨rfl, os10, d10, rfl⟩
  go_wp2_with (fail)
  refine (eqIntS_l (xs := p.2) (ys := p.2) (Ty.up _ (Ty.read _ hO_g1_9) (by repeat (first | with_reducible exact Gro.refl _ | with_reducible exact Gro.refl_drew _ _ _ | with_reducible exact Gro.refl_drewN _ _ _ _ | assumption | with_reducible apply Gro.more | with_reducible apply Gro.alloc | with_reducible apply Gro.drew | with_reducible apply Gro.drewN))) (Ty.up _ (Ty.read _ hO_w1_9) (by repeat (first | with_reducible exact Gro.refl _ | with_reducible exact Gro.refl_drew _ _ _ | with_reducible exact Gro.refl_drewN _ _ _ _ | assumption | with_reducible apply Gro.more | with_reducible apply Gro.alloc | with_reducible apply Gro.drew | with_reducible apply Gro.drewN)))).mono ?_
  rintro e w1 ⟨rfl, ose2, de2, rfl⟩
  go_wp2_with (fail)
  refine (markProcess_l (x := p.1) (Ty.groO _ hO_g0_9 (by repeat (first | with_reducible exact Gro.refl _ | with_reducible exact Gro.refl_drew _ _ _ | with_reducible exact Gro.refl_drewN _ _ _ _ | assumption | with_reducible apply Gro.more | with_reducible apply Gro.alloc | with_reducible apply Gro.drew | with_reducible apply Gro.drewN))) hN_g0 (by omega) (by omega)).mono ?_
  rintro e w11 ⟨rfl, hM_g0, hS11⟩
  have hO_w0_9_11 := keepOnly _ hO_w0_9 hS11 (by repeat (first | with_reducible exact Gro.refl _ | with_reducible exact Gro.refl_drew _ _ _ | with_reducible exact Gro.refl_drewN _ _ _ _ | assumption | with_reducible apply Gro.more | with_reducible apply Gro.alloc | with_reducible apply Gro.drew | with_reducible apply Gro.drewN)) (fun b hb hm => by have q1 := hU_w0 b hb; have q2 := hL_g0 b hm; simp at q1 q2; omega)
  have hO_w1_9_11 := keepOnly _ hO_w1_9 hS11 (by repeat (first | with_reducible exact Gro.refl _ | with_reducible exact Gro.refl_drew _ _ _ | with_reducible exact Gro.refl_drewN _ _ _ _ | assumption | with_reducible apply Gro.more | with_reducible apply Gro.alloc | with_reducible apply Gro.drew | with_reducible apply Gro.drewN)) (fun b hb hm => by have q1 := hU_w1 b hb; have q2 := hL_g0 b hm; simp at q1 q2; omega)
  have hO_g1_9_11 := keepOnly _ hO_g1_9 hS11 (by repeat (first | with_reducible exact Gro.refl _ | with_reducible exact Gro.refl_drew _ _ _ | with_reducible exact Gro.refl_drewN _ _ _ _ | assumption | with_reducible apply Gro.more | with_reducible apply Gro.alloc | with_reducible apply Gro.drew | with_reducible apply Gro.drewN)) (fun b hb hm => hD_g b hm hb)
  have hc11_x_0 : w11.cell? ⟨w.heap.size, 0, none⟩ = some (.slice A0 x.Space.Images.length c0) := (hS11.cell (by simp <;> omega) (fun hm => by have q1 := hL_g0 _ hm; simp at q1 <;> omega) 0).trans (by first | exact hc9_x_0 | exact gro_keeps hc9_x_0 _ _ | simp [go_sem, hc9_x_0, hcb_x])
  have hc11_x_1 : w11.cell? ⟨w.heap.size, 1, none⟩ = some (.slice A1 x.Space.Bases.length c1) := (hS11.cell (by simp <;> omega) (fun hm => by have q1 := hL_g0 _ hm; simp at q1 <;> omega) 1).trans (by first | exact hc9_x_1 | exact gro_keeps hc9_x_1 _ _ | simp [go_sem, hc9_x_1, hcb_x])
  have hc11_x_2 : w11.cell? ⟨w.heap.size, 2, none⟩ = some (.slice A2 x.Space.Entries.length c2) := (hS11.cell (by simp <;> omega) (fun hm => by have q1 := hL_g0 _ hm; simp at q1 <;> omega) 2).trans (by first | exact hc9_x_2 | exact gro_keeps hc9_x_2 _ _ | simp [go_sem, hc9_x_2, hcb_x])
  have hc11_x_3 : w11.cell? ⟨w.heap.size, 3, none⟩ = some (.slice A3 x.Threads.length c3) := (hS11.cell (by simp <;> omega) (fun hm => by have q1 := hL_g0 _ hm; simp at q1 <;> omega) 3).trans (by first | exact hc9_x_3 | exact gro_keeps hc9_x_3 _ _ | simp [go_sem, hc9_x_3, hcb_x])
  have hc11_x_4 : w11.cell? ⟨w.heap.size, 4, none⟩ = some (.int .i64 x.Turn) := (hS11.cell (by simp <;> omega) (fun hm => by have q1 := hL_g0 _ hm; simp at q1 <;> omega) 4).trans (by first | exact hc9_x_4 | exact gro_keeps hc9_x_4 _ _ | simp [go_sem, hc9_x_4, hcb_x])
  have hc11_x_5 : w11.cell? ⟨w.heap.size, 5, none⟩ = some (.int .i64 x.Left) := (hS11.cell (by simp <;> omega) (fun hm => by have q1 := hL_g0 _ hm; simp at q1 <;> omega) 5).trans (by first | exact hc9_x_5 | exact gro_keeps hc9_x_5 _ _ | simp [go_sem, hc9_x_5, hcb_x])
  have hc11_x_6 : w11.cell? ⟨w.heap.size, 6, none⟩ = some (.int .i64 x.Slice) := (hS11.cell (by simp <;> omega) (fun hm => by have q1 := hL_g0 _ hm; simp at q1 <;> omega) 6).trans (by first | exact hc9_x_6 | exact gro_keeps hc9_x_6 _ _ | simp [go_sem, hc9_x_6, hcb_x])
  replace hcb_x : w.heap.size < w11.heap.size := Nat.lt_of_lt_of_le (by simp <;> omega) hS11.size
  have hc11_w0_0 : w11.cell? ⟨w.heap.size + 1 + os0.size + os2.size + os3.size, 0, none⟩ = some (.slice B3_0 p.1.Space.Images.length e3_0) := (hS11.cell (by simp <;> omega) (fun hm => by have q1 := hL_g0 _ hm; simp at q1 <;> omega) 0).trans (by first | exact hc9_w0_0 | exact gro_keeps hc9_w0_0 _ _ | simp [go_sem, hc9_w0_0, hcb_w0])
  have hc11_w0_1 : w11.cell? ⟨w.heap.size + 1 + os0.size + os2.size + os3.size, 1, none⟩ = some (.slice B3_1 p.1.Space.Bases.length e3_1) := (hS11.cell (by simp <;> omega) (fun hm => by have q1 := hL_g0 _ hm; simp at q1 <;> omega) 1).trans (by first | exact hc9_w0_1 | exact gro_keeps hc9_w0_1 _ _ | simp [go_sem, hc9_w0_1, hcb_w0])
  have hc11_w0_2 : w11.cell? ⟨w.heap.size + 1 + os0.size + os2.size + os3.size, 2, none⟩ = some (.slice B3_2 p.1.Space.Entries.length e3_2) := (hS11.cell (by simp <;> omega) (fun hm => by have q1 := hL_g0 _ hm; simp at q1 <;> omega) 2).trans (by first | exact hc9_w0_2 | exact gro_keeps hc9_w0_2 _ _ | simp [go_sem, hc9_w0_2, hcb_w0])
  have hc11_w0_3 : w11.cell? ⟨w.heap.size + 1 + os0.size + os2.size + os3.size, 3, none⟩ = some (.slice B3_3 p.1.Threads.length e3_3) := (hS11.cell (by simp <;> omega) (fun hm => by have q1 := hL_g0 _ hm; simp at q1 <;> omega) 3).trans (by first | exact hc9_w0_3 | exact gro_keeps hc9_w0_3 _ _ | simp [go_sem, hc9_w0_3, hcb_w0])
  have hc11_w0_4 : w11.cell? ⟨w.heap.size + 1 + os0.size + os2.size + os3.size, 4, none⟩ = some (.int .i64 p.1.Turn) := (hS11.cell (by simp <;> omega) (fun hm => by have q1 := hL_g0 _ hm; simp at q1 <;> omega) 4).trans (by first | exact hc9_w0_4 | exact gro_keeps hc9_w0_4 _ _ | simp [go_sem, hc9_w0_4, hcb_w0])
  have hc11_w0_5 : w11.cell? ⟨w.heap.size + 1 + os0.size + os2.size + os3.size, 5, none⟩ = some (.int .i64 p.1.Left) := (hS11.cell (by simp <;> omega) (fun hm => by have q1 := hL_g0 _ hm; simp at q1 <;> omega) 5).trans (by first | exact hc9_w0_5 | exact gro_keeps hc9_w0_5 _ _ | simp [go_sem, hc9_w0_5, hcb_w0])
  have hc11_w0_6 : w11.cell? ⟨w.heap.size + 1 + os0.size + os2.size + os3.size, 6, none⟩ = some (.int .i64 p.1.Slice) := (hS11.cell (by simp <;> omega) (fun hm => by have q1 := hL_g0 _ hm; simp at q1 <;> omega) 6).trans (by first | exact hc9_w0_6 | exact gro_keeps hc9_w0_6 _ _ | simp [go_sem, hc9_w0_6, hcb_w0])
  replace hcb_w0 : w.heap.size + 1 + os0.size + os2.size + os3.size < w11.heap.size := Nat.lt_of_lt_of_le (by simp <;> omega) hS11.size
  have hc11_g0_0 : w11.cell? ⟨w.heap.size + 1 + os0.size + os2.size + os3.size + 1 + os4.size + 1 + os5.size, 0, none⟩ = some (.slice B5_0 p.1.Space.Images.length e5_0) := (hS11.cell (by simp <;> omega) (fun hm => by have q1 := hU_g0 _ hm; simp at q1 <;> omega) 0).trans (by first | exact hc9_g0_0 | exact gro_keeps hc9_g0_0 _ _ | simp [go_sem, hc9_g0_0, hcb_g0])
  have hc11_g0_1 : w11.cell? ⟨w.heap.size + 1 + os0.size + os2.size + os3.size + 1 + os4.size + 1 + os5.size, 1, none⟩ = some (.slice B5_1 p.1.Space.Bases.length e5_1) := (hS11.cell (by simp <;> omega) (fun hm => by have q1 := hU_g0 _ hm; simp at q1 <;> omega) 1).trans (by first | exact hc9_g0_1 | exact gro_keeps hc9_g0_1 _ _ | simp [go_sem, hc9_g0_1, hcb_g0])
  have hc11_g0_2 : w11.cell? ⟨w.heap.size + 1 + os0.size + os2.size + os3.size + 1 + os4.size + 1 + os5.size, 2, none⟩ = some (.slice B5_2 p.1.Space.Entries.length e5_2) := (hS11.cell (by simp <;> omega) (fun hm => by have q1 := hU_g0 _ hm; simp at q1 <;> omega) 2).trans (by first | exact hc9_g0_2 | exact gro_keeps hc9_g0_2 _ _ | simp [go_sem, hc9_g0_2, hcb_g0])
  have hc11_g0_3 : w11.cell? ⟨w.heap.size + 1 + os0.size + os2.size + os3.size + 1 + os4.size + 1 + os5.size, 3, none⟩ = some (.slice B5_3 p.1.Threads.length e5_3) := (hS11.cell (by simp <;> omega) (fun hm => by have q1 := hU_g0 _ hm; simp at q1 <;> omega) 3).trans (by first | exact hc9_g0_3 | exact gro_keeps hc9_g0_3 _ _ | simp [go_sem, hc9_g0_3, hcb_g0])
  have hc11_g0_4 : w11.cell? ⟨w.heap.size + 1 + os0.size + os2.size + os3.size + 1 + os4.size + 1 + os5.size, 4, none⟩ = some (.int .i64 p.1.Turn) := (hS11.cell (by simp <;> omega) (fun hm => by have q1 := hU_g0 _ hm; simp at q1 <;> omega) 4).trans (by first | exact hc9_g0_4 | exact gro_keeps hc9_g0_4 _ _ | simp [go_sem, hc9_g0_4, hcb_g0])
  have hc11_g0_5 : w11.cell? ⟨w.heap.size + 1 + os0.size + os2.size + os3.size + 1 + os4.size + 1 + os5.size, 5, none⟩ = some (.int .i64 p.1.Left) := (hS11.cell (by simp <;> omega) (fun hm => by have q1 := hU_g0 _ hm; simp at q1 <;> omega) 5).trans (by first | exact hc9_g0_5 | exact gro_keeps hc9_g0_5 _ _ | simp [go_sem, hc9_g0_5, hcb_g0])
  have hc11_g0_6 : w11.cell? ⟨w.heap.size + 1 + os0.size + os2.size + os3.size + 1 + os4.size + 1 + os5.size, 6, none⟩ = some (.int .i64 p.1.Slice) := (hS11.cell (by simp <;> omega) (fun hm => by have q1 := hU_g0 _ hm; simp at q1 <;> omega) 6).trans (by first | exact hc9_g0_6 | exact gro_keeps hc9_g0_6 _ _ | simp [go_sem, hc9_g0_6, hcb_g0])
  replace hcb_g0 : w.heap.size + 1 + os0.size + os2.size + os3.size + 1 + os4.size + 1 + os5.size < w11.heap.size := Nat.lt_of_lt_of_le (by simp <;> omega) hS11.size
  clear hc9_x_0 hc9_x_1 hc9_x_2 hc9_x_3 hc9_x_4 hc9_x_5 hc9_x_6 hc9_w0_0 hc9_w0_1 hc9_w0_2 hc9_w0_3 hc9_w0_4 hc9_w0_5 hc9_w0_6 hc9_g0_0 hc9_g0_1 hc9_g0_2 hc9_g0_3 hc9_g0_4 hc9_g0_5 hc9_g0_6
  obtain ⟨os11, d11, rfl⟩ := hS11.gro (W0 := w) (by repeat (first | with_reducible exact Gro.refl _ | with_reducible exact Gro.refl_drew _ _ _ | with_reducible exact Gro.refl_drewN _ _ _ _ | assumption | with_reducible apply Gro.more | with_reducible apply Gro.alloc | with_reducible apply Gro.drew | with_reducible apply Gro.drewN)) (fun b hb => by have q1 := hL_g0 b hb; simp at q1; omega)
  clear hS11
  simp at hcb_x
  simp at hcb_w0
  simp at hcb_g0
  go_wp2_with (fail)
  refine (markIntS_l (xs := p.2) (Ty.groO _ hO_g1_9_11 (by repeat (first | with_reducible exact Gro.refl _ | with_reducible exact Gro.refl_drew _ _ _ | with_reducible exact Gro.refl_drewN _ _ _ _ | assumption | with_reducible apply Gro.more | with_reducible apply Gro.alloc | with_reducible apply Gro.drew | with_reducible apply Gro.drewN))) hN_g1 (by omega) (by omega)).mono ?_
  rintro e w17 ⟨rfl, hM_g1, hS17⟩
  have hO_w0_9_11 := keepOnly _ hO_w0_9_11 hS17 (by repeat (first | with_reducible exact Gro.refl _ | with_reducible exact Gro.refl_drew _ _ _ | with_reducible exact Gro.refl_drewN _ _ _ _ | assumption | with_reducible apply Gro.more | with_reducible apply Gro.alloc | with_reducible apply Gro.drew | with_reducible apply Gro.drewN)) (fun b hb hm => by have q1 := hU_w0 b hb; have q2 := hL_g1 b hm; simp at q1 q2; omega)
  have hO_w1_9_11 := keepOnly _ hO_w1_9_11 hS17 (by repeat (first | with_reducible exact Gro.refl _ | with_reducible exact Gro.refl_drew _ _ _ | with_reducible exact Gro.refl_drewN _ _ _ _ | assumption | with_reducible apply Gro.more | with_reducible apply Gro.alloc | with_reducible apply Gro.drew | with_reducible apply Gro.drewN)) (fun b hb hm => by have q1 := hU_w1 b hb; have q2 := hL_g1 b hm; simp at q1 q2; omega)
  have hM_g0 := keepOnly _ hM_g0 hS17 (by repeat (first | with_reducible exact Gro.refl _ | with_reducible exact Gro.refl_drew _ _ _ | with_reducible exact Gro.refl_drewN _ _ _ _ | assumption | with_reducible apply Gro.more | with_reducible apply Gro.alloc | with_reducible apply Gro.drew | with_reducible apply Gro.drewN)) (fun b hb hm => hD_g b hb hm)
  have hc17_x_0 : w17.cell? ⟨w.heap.size, 0, none⟩ = some (.slice A0 x.Space.Images.length c0) := (hS17.cell (by simp <;> omega) (fun hm => by have q1 := hL_g1 _ hm; simp at q1 <;> omega) 0).trans (by first | exact hc11_x_0 | exact gro_keeps hc11_x_0 _ _ | simp [go_sem, hc11_x_0, hcb_x])
  have hc17_x_1 : w17.cell? ⟨w.heap.size, 1, none⟩ = some (.slice A1 x.Space.Bases.length c1) := (hS17.cell (by simp <;> omega) (fun hm => by have q1 := hL_g1 _ hm; simp at q1 <;> omega) 1).trans (by first | exact hc11_x_1 | exact gro_keeps hc11_x_1 _ _ | simp [go_sem, hc11_x_1, hcb_x])
  have hc17_x_2 : w17.cell? ⟨w.heap.size, 2, none⟩ = some (.slice A2 x.Space.Entries.length c2) := (hS17.cell (by simp <;> omega) (fun hm => by have q1 := hL_g1 _ hm; simp at q1 <;> omega) 2).trans (by first | exact hc11_x_2 | exact gro_keeps hc11_x_2 _ _ | simp [go_sem, hc11_x_2, hcb_x])
  have hc17_x_3 : w17.cell? ⟨w.heap.size, 3, none⟩ = some (.slice A3 x.Threads.length c3) := (hS17.cell (by simp <;> omega) (fun hm => by have q1 := hL_g1 _ hm; simp at q1 <;> omega) 3).trans (by first | exact hc11_x_3 | exact gro_keeps hc11_x_3 _ _ | simp [go_sem, hc11_x_3, hcb_x])
  have hc17_x_4 : w17.cell? ⟨w.heap.size, 4, none⟩ = some (.int .i64 x.Turn) := (hS17.cell (by simp <;> omega) (fun hm => by have q1 := hL_g1 _ hm; simp at q1 <;> omega) 4).trans (by first | exact hc11_x_4 | exact gro_keeps hc11_x_4 _ _ | simp [go_sem, hc11_x_4, hcb_x])
  have hc17_x_5 : w17.cell? ⟨w.heap.size, 5, none⟩ = some (.int .i64 x.Left) := (hS17.cell (by simp <;> omega) (fun hm => by have q1 := hL_g1 _ hm; simp at q1 <;> omega) 5).trans (by first | exact hc11_x_5 | exact gro_keeps hc11_x_5 _ _ | simp [go_sem, hc11_x_5, hcb_x])
  have hc17_x_6 : w17.cell? ⟨w.heap.size, 6, none⟩ = some (.int .i64 x.Slice) := (hS17.cell (by simp <;> omega) (fun hm => by have q1 := hL_g1 _ hm; simp at q1 <;> omega) 6).trans (by first | exact hc11_x_6 | exact gro_keeps hc11_x_6 _ _ | simp [go_sem, hc11_x_6, hcb_x])
  replace hcb_x : w.heap.size < w17.heap.size := Nat.lt_of_lt_of_le (by simp <;> omega) hS17.size
  have hc17_w0_0 : w17.cell? ⟨w.heap.size + 1 + os0.size + os2.size + os3.size, 0, none⟩ = some (.slice B3_0 p.1.Space.Images.length e3_0) := (hS17.cell (by simp <;> omega) (fun hm => by have q1 := hL_g1 _ hm; simp at q1 <;> omega) 0).trans (by first | exact hc11_w0_0 | exact gro_keeps hc11_w0_0 _ _ | simp [go_sem, hc11_w0_0, hcb_w0])
  have hc17_w0_1 : w17.cell? ⟨w.heap.size + 1 + os0.size + os2.size + os3.size, 1, none⟩ = some (.slice B3_1 p.1.Space.Bases.length e3_1) := (hS17.cell (by simp <;> omega) (fun hm => by have q1 := hL_g1 _ hm; simp at q1 <;> omega) 1).trans (by first | exact hc11_w0_1 | exact gro_keeps hc11_w0_1 _ _ | simp [go_sem, hc11_w0_1, hcb_w0])
  have hc17_w0_2 : w17.cell? ⟨w.heap.size + 1 + os0.size + os2.size + os3.size, 2, none⟩ = some (.slice B3_2 p.1.Space.Entries.length e3_2) := (hS17.cell (by simp <;> omega) (fun hm => by have q1 := hL_g1 _ hm; simp at q1 <;> omega) 2).trans (by first | exact hc11_w0_2 | exact gro_keeps hc11_w0_2 _ _ | simp [go_sem, hc11_w0_2, hcb_w0])
  have hc17_w0_3 : w17.cell? ⟨w.heap.size + 1 + os0.size + os2.size + os3.size, 3, none⟩ = some (.slice B3_3 p.1.Threads.length e3_3) := (hS17.cell (by simp <;> omega) (fun hm => by have q1 := hL_g1 _ hm; simp at q1 <;> omega) 3).trans (by first | exact hc11_w0_3 | exact gro_keeps hc11_w0_3 _ _ | simp [go_sem, hc11_w0_3, hcb_w0])
  have hc17_w0_4 : w17.cell? ⟨w.heap.size + 1 + os0.size + os2.size + os3.size, 4, none⟩ = some (.int .i64 p.1.Turn) := (hS17.cell (by simp <;> omega) (fun hm => by have q1 := hL_g1 _ hm; simp at q1 <;> omega) 4).trans (by first | exact hc11_w0_4 | exact gro_keeps hc11_w0_4 _ _ | simp [go_sem, hc11_w0_4, hcb_w0])
  have hc17_w0_5 : w17.cell? ⟨w.heap.size + 1 + os0.size + os2.size + os3.size, 5, none⟩ = some (.int .i64 p.1.Left) := (hS17.cell (by simp <;> omega) (fun hm => by have q1 := hL_g1 _ hm; simp at q1 <;> omega) 5).trans (by first | exact hc11_w0_5 | exact gro_keeps hc11_w0_5 _ _ | simp [go_sem, hc11_w0_5, hcb_w0])
  have hc17_w0_6 : w17.cell? ⟨w.heap.size + 1 + os0.size + os2.size + os3.size, 6, none⟩ = some (.int .i64 p.1.Slice) := (hS17.cell (by simp <;> omega) (fun hm => by have q1 := hL_g1 _ hm; simp at q1 <;> omega) 6).trans (by first | exact hc11_w0_6 | exact gro_keeps hc11_w0_6 _ _ | simp [go_sem, hc11_w0_6, hcb_w0])
  replace hcb_w0 : w.heap.size + 1 + os0.size + os2.size + os3.size < w17.heap.size := Nat.lt_of_lt_of_le (by simp <;> omega) hS17.size
  have hc17_g0_0 : w17.cell? ⟨w.heap.size + 1 + os0.size + os2.size + os3.size + 1 + os4.size + 1 + os5.size, 0, none⟩ = some (.slice B5_0 p.1.Space.Images.length e5_0) := (hS17.cell (by simp <;> omega) (fun hm => by have q1 := hU_g1 _ hm; simp at q1 <;> omega) 0).trans (by first | exact hc11_g0_0 | exact gro_keeps hc11_g0_0 _ _ | simp [go_sem, hc11_g0_0, hcb_g0])
  have hc17_g0_1 : w17.cell? ⟨w.heap.size + 1 + os0.size + os2.size + os3.size + 1 + os4.size + 1 + os5.size, 1, none⟩ = some (.slice B5_1 p.1.Space.Bases.length e5_1) := (hS17.cell (by simp <;> omega) (fun hm => by have q1 := hU_g1 _ hm; simp at q1 <;> omega) 1).trans (by first | exact hc11_g0_1 | exact gro_keeps hc11_g0_1 _ _ | simp [go_sem, hc11_g0_1, hcb_g0])
  have hc17_g0_2 : w17.cell? ⟨w.heap.size + 1 + os0.size + os2.size + os3.size + 1 + os4.size + 1 + os5.size, 2, none⟩ = some (.slice B5_2 p.1.Space.Entries.length e5_2) := (hS17.cell (by simp <;> omega) (fun hm => by have q1 := hU_g1 _ hm; simp at q1 <;> omega) 2).trans (by first | exact hc11_g0_2 | exact gro_keeps hc11_g0_2 _ _ | simp [go_sem, hc11_g0_2, hcb_g0])
  have hc17_g0_3 : w17.cell? ⟨w.heap.size + 1 + os0.size + os2.size + os3.size + 1 + os4.size + 1 + os5.size, 3, none⟩ = some (.slice B5_3 p.1.Threads.length e5_3) := (hS17.cell (by simp <;> omega) (fun hm => by have q1 := hU_g1 _ hm; simp at q1 <;> omega) 3).trans (by first | exact hc11_g0_3 | exact gro_keeps hc11_g0_3 _ _ | simp [go_sem, hc11_g0_3, hcb_g0])
  have hc17_g0_4 : w17.cell? ⟨w.heap.size + 1 + os0.size + os2.size + os3.size + 1 + os4.size + 1 + os5.size, 4, none⟩ = some (.int .i64 p.1.Turn) := (hS17.cell (by simp <;> omega) (fun hm => by have q1 := hU_g1 _ hm; simp at q1 <;> omega) 4).trans (by first | exact hc11_g0_4 | exact gro_keeps hc11_g0_4 _ _ | simp [go_sem, hc11_g0_4, hcb_g0])
  have hc17_g0_5 : w17.cell? ⟨w.heap.size + 1 + os0.size + os2.size + os3.size + 1 + os4.size + 1 + os5.size, 5, none⟩ = some (.int .i64 p.1.Left) := (hS17.cell (by simp <;> omega) (fun hm => by have q1 := hU_g1 _ hm; simp at q1 <;> omega) 5).trans (by first | exact hc11_g0_5 | exact gro_keeps hc11_g0_5 _ _ | simp [go_sem, hc11_g0_5, hcb_g0])
  have hc17_g0_6 : w17.cell? ⟨w.heap.size + 1 + os0.size + os2.size + os3.size + 1 + os4.size + 1 + os5.size, 6, none⟩ = some (.int .i64 p.1.Slice) := (hS17.cell (by simp <;> omega) (fun hm => by have q1 := hU_g1 _ hm; simp at q1 <;> omega) 6).trans (by first | exact hc11_g0_6 | exact gro_keeps hc11_g0_6 _ _ | simp [go_sem, hc11_g0_6, hcb_g0])
  replace hcb_g0 : w.heap.size + 1 + os0.size + os2.size + os3.size + 1 + os4.size + 1 + os5.size < w17.heap.size := Nat.lt_of_lt_of_le (by simp <;> omega) hS17.size
  clear hc11_x_0 hc11_x_1 hc11_x_2 hc11_x_3 hc11_x_4 hc11_x_5 hc11_x_6 hc11_w0_0 hc11_w0_1 hc11_w0_2 hc11_w0_3 hc11_w0_4 hc11_w0_5 hc11_w0_6 hc11_g0_0 hc11_g0_1 hc11_g0_2 hc11_g0_3 hc11_g0_4 hc11_g0_5 hc11_g0_6
  obtain ⟨os17, d17, rfl⟩ := hS17.gro (W0 := w) (by repeat (first | with_reducible exact Gro.refl _ | with_reducible exact Gro.refl_drew _ _ _ | with_reducible exact Gro.refl_drewN _ _ _ _ | assumption | with_reducible apply Gro.more | with_reducible apply Gro.alloc | with_reducible apply Gro.drew | with_reducible apply Gro.drewN)) (fun b hb => by have q1 := hL_g1 b hb; simp at q1; omega)
  clear hS17
  simp at hcb_x
  simp at hcb_w0
  simp at hcb_g0
  go_wp2_with (fail)
  refine (heldProcess_l (x := p.1) (Ty.up _ (mkProcess_read hM_g0).1 (by repeat (first | with_reducible exact Gro.refl _ | with_reducible exact Gro.refl_drew _ _ _ | with_reducible exact Gro.refl_drewN _ _ _ _ | assumption | with_reducible apply Gro.more | with_reducible apply Gro.alloc | with_reducible apply Gro.drew | with_reducible apply Gro.drewN))) (Ty.up _ (mkProcess_read hM_g0).2.1 (by repeat (first | with_reducible exact Gro.refl _ | with_reducible exact Gro.refl_drew _ _ _ | with_reducible exact Gro.refl_drewN _ _ _ _ | assumption | with_reducible apply Gro.more | with_reducible apply Gro.alloc | with_reducible apply Gro.drew | with_reducible apply Gro.drewN))) (Ty.up _ (mkProcess_read hM_g0).2.2.1 (by repeat (first | with_reducible exact Gro.refl _ | with_reducible exact Gro.refl_drew _ _ _ | with_reducible exact Gro.refl_drewN _ _ _ _ | assumption | with_reducible apply Gro.more | with_reducible apply Gro.alloc | with_reducible apply Gro.drew | with_reducible apply Gro.drewN))) (Ty.up _ (mkProcess_read hM_g0).2.2.2 (by repeat (first | with_reducible exact Gro.refl _ | with_reducible exact Gro.refl_drew _ _ _ | with_reducible exact Gro.refl_drewN _ _ _ _ | assumption | with_reducible apply Gro.more | with_reducible apply Gro.alloc | with_reducible apply Gro.drew | with_reducible apply Gro.drewN))) (by omega) (by omega)).mono ?_
  rintro e w1 ⟨rfl, os12, d12, rfl⟩
  go_wp2_with (fail)
  refine (heldIntS_l (xs := p.2) (B := _) (Nat.le_refl _) (Ty.up _ (Ty.read _ hM_g1) (by repeat (first | with_reducible exact Gro.refl _ | with_reducible exact Gro.refl_drew _ _ _ | with_reducible exact Gro.refl_drewN _ _ _ _ | assumption | with_reducible apply Gro.more | with_reducible apply Gro.alloc | with_reducible apply Gro.drew | with_reducible apply Gro.drewN))) (by omega) (by omega)).mono ?_
  rintro e w1 ⟨rfl, osh1, dh1, rfl⟩
  go_wp2_with (fail)
  refine (toProcess_l (x := x) (Ty.up _ p_x0 (by repeat (first | with_reducible exact Gro.refl _ | with_reducible exact Gro.refl_drew _ _ _ | with_reducible exact Gro.refl_drewN _ _ _ _ | assumption | with_reducible apply Gro.more | with_reducible apply Gro.alloc | with_reducible apply Gro.drew | with_reducible apply Gro.drewN))) (Ty.up _ p_x1 (by repeat (first | with_reducible exact Gro.refl _ | with_reducible exact Gro.refl_drew _ _ _ | with_reducible exact Gro.refl_drewN _ _ _ _ | assumption | with_reducible apply Gro.more | with_reducible apply Gro.alloc | with_reducible apply Gro.drew | with_reducible apply Gro.drewN))) (Ty.up _ p_x2 (by repeat (first | with_reducible exact Gro.refl _ | with_reducible exact Gro.refl_drew _ _ _ | with_reducible exact Gro.refl_drewN _ _ _ _ | assumption | with_reducible apply Gro.more | with_reducible apply Gro.alloc | with_reducible apply Gro.drew | with_reducible apply Gro.drewN))) (Ty.up _ p_x3 (by repeat (first | with_reducible exact Gro.refl _ | with_reducible exact Gro.refl_drew _ _ _ | with_reducible exact Gro.refl_drewN _ _ _ _ | assumption | with_reducible apply Gro.more | with_reducible apply Gro.alloc | with_reducible apply Gro.drew | with_reducible apply Gro.drewN))) p_x4 p_x5 p_x6 (by omega)).mono ?_
  rintro e w1 ⟨A13_0, c13_0, A13_1, c13_1, A13_2, c13_2, A13_3, c13_3, rfl, hF13, os13, d13, rfl⟩
  go_wp2_with (fail)
  refine (runP_i (x := x) (limit := limit) (Ty.up _ (rdProcess hF13.read).1 (by repeat (first | with_reducible exact Gro.refl _ | with_reducible exact Gro.refl_drew _ _ _ | with_reducible exact Gro.refl_drewN _ _ _ _ | assumption | with_reducible apply Gro.more | with_reducible apply Gro.alloc | with_reducible apply Gro.drew | with_reducible apply Gro.drewN))) (Ty.up _ (rdProcess hF13.read).2.1 (by repeat (first | with_reducible exact Gro.refl _ | with_reducible exact Gro.refl_drew _ _ _ | with_reducible exact Gro.refl_drewN _ _ _ _ | assumption | with_reducible apply Gro.more | with_reducible apply Gro.alloc | with_reducible apply Gro.drew | with_reducible apply Gro.drewN))) (Ty.up _ (rdProcess hF13.read).2.2.1 (by repeat (first | with_reducible exact Gro.refl _ | with_reducible exact Gro.refl_drew _ _ _ | with_reducible exact Gro.refl_drewN _ _ _ _ | assumption | with_reducible apply Gro.more | with_reducible apply Gro.alloc | with_reducible apply Gro.drew | with_reducible apply Gro.drewN))) (Ty.up _ (rdProcess hF13.read).2.2.2.1 (by repeat (first | with_reducible exact Gro.refl _ | with_reducible exact Gro.refl_drew _ _ _ | with_reducible exact Gro.refl_drewN _ _ _ _ | assumption | with_reducible apply Gro.more | with_reducible apply Gro.alloc | with_reducible apply Gro.drew | with_reducible apply Gro.drewN))) (rdProcess hF13.read).2.2.2.2.1 (rdProcess hF13.read).2.2.2.2.2.1 (rdProcess hF13.read).2.2.2.2.2.2 ⟨hb1_limit, hb2_limit⟩ (by have := HN0.out; omega)).mono ?_
  rw [hp.out]
  rintro e w1 ⟨B14_0, e14_0, B14_1, e14_1, B14_2, e14_2, B14_3, e14_3, B14_4, e14_4, S_h0, S_h1, rfl, hH_h0, hH_h1, hD_h, hL_h0, hL_h1, os14, d14, rfl⟩
  have hR14 := hH_h0.fresh hL_h0
  have hQ14 := hH_h1.fresh hL_h1
  go_wp2_with (fail)
  refine (eqProcess_l (x := p.1) (y := p.1) (Ty.up _ (rdProcess hR14.read).1 (by repeat (first | with_reducible exact Gro.refl _ | with_reducible exact Gro.refl_drew _ _ _ | with_reducible exact Gro.refl_drewN _ _ _ _ | assumption | with_reducible apply Gro.more | with_reducible apply Gro.alloc | with_reducible apply Gro.drew | with_reducible apply Gro.drewN))) (Ty.up _ (rdProcess hR14.read).2.1 (by repeat (first | with_reducible exact Gro.refl _ | with_reducible exact Gro.refl_drew _ _ _ | with_reducible exact Gro.refl_drewN _ _ _ _ | assumption | with_reducible apply Gro.more | with_reducible apply Gro.alloc | with_reducible apply Gro.drew | with_reducible apply Gro.drewN))) (Ty.up _ (rdProcess hR14.read).2.2.1 (by repeat (first | with_reducible exact Gro.refl _ | with_reducible exact Gro.refl_drew _ _ _ | with_reducible exact Gro.refl_drewN _ _ _ _ | assumption | with_reducible apply Gro.more | with_reducible apply Gro.alloc | with_reducible apply Gro.drew | with_reducible apply Gro.drewN))) (Ty.up _ (rdProcess hR14.read).2.2.2.1 (by repeat (first | with_reducible exact Gro.refl _ | with_reducible exact Gro.refl_drew _ _ _ | with_reducible exact Gro.refl_drewN _ _ _ _ | assumption | with_reducible apply Gro.more | with_reducible apply Gro.alloc | with_reducible apply Gro.drew | with_reducible apply Gro.drewN))) (Ty.up _ (rdProcess (Ty.read _ hO_w0_9_11)).1 (by repeat (first | with_reducible exact Gro.refl _ | with_reducible exact Gro.refl_drew _ _ _ | with_reducible exact Gro.refl_drewN _ _ _ _ | assumption | with_reducible apply Gro.more | with_reducible apply Gro.alloc | with_reducible apply Gro.drew | with_reducible apply Gro.drewN))) (Ty.up _ (rdProcess (Ty.read _ hO_w0_9_11)).2.1 (by repeat (first | with_reducible exact Gro.refl _ | with_reducible exact Gro.refl_drew _ _ _ | with_reducible exact Gro.refl_drewN _ _ _ _ | assumption | with_reducible apply Gro.more | with_reducible apply Gro.alloc | with_reducible apply Gro.drew | with_reducible apply Gro.drewN))) (Ty.up _ (rdProcess (Ty.read _ hO_w0_9_11)).2.2.1 (by repeat (first | with_reducible exact Gro.refl _ | with_reducible exact Gro.refl_drew _ _ _ | with_reducible exact Gro.refl_drewN _ _ _ _ | assumption | with_reducible apply Gro.more | with_reducible apply Gro.alloc | with_reducible apply Gro.drew | with_reducible apply Gro.drewN))) (Ty.up _ (rdProcess (Ty.read _ hO_w0_9_11)).2.2.2.1 (by repeat (first | with_reducible exact Gro.refl _ | with_reducible exact Gro.refl_drew _ _ _ | with_reducible exact Gro.refl_drewN _ _ _ _ | assumption | with_reducible apply Gro.more | with_reducible apply Gro.alloc | with_reducible apply Gro.drew | with_reducible apply Gro.drewN)))).mono ?_
  rintro e w1 ⟨rfl, os15, d15, rfl⟩
  go_wp2_with (fail)
  refine (eqIntS_l (xs := p.2) (ys := p.2) (Ty.up _ (hQ14.read) (by repeat (first | with_reducible exact Gro.refl _ | with_reducible exact Gro.refl_drew _ _ _ | with_reducible exact Gro.refl_drewN _ _ _ _ | assumption | with_reducible apply Gro.more | with_reducible apply Gro.alloc | with_reducible apply Gro.drew | with_reducible apply Gro.drewN))) (Ty.up _ (Ty.read _ hO_w1_9_11) (by repeat (first | with_reducible exact Gro.refl _ | with_reducible exact Gro.refl_drew _ _ _ | with_reducible exact Gro.refl_drewN _ _ _ _ | assumption | with_reducible apply Gro.more | with_reducible apply Gro.alloc | with_reducible apply Gro.drew | with_reducible apply Gro.drewN)))).mono ?_
  rintro e w1 ⟨rfl, ose3, de3, rfl⟩
  go_wp2_with (fail)
  refine (heldProcess_l (x := p.1) (Ty.up _ (mkProcess_read hM_g0).1 (by repeat (first | with_reducible exact Gro.refl _ | with_reducible exact Gro.refl_drew _ _ _ | with_reducible exact Gro.refl_drewN _ _ _ _ | assumption | with_reducible apply Gro.more | with_reducible apply Gro.alloc | with_reducible apply Gro.drew | with_reducible apply Gro.drewN))) (Ty.up _ (mkProcess_read hM_g0).2.1 (by repeat (first | with_reducible exact Gro.refl _ | with_reducible exact Gro.refl_drew _ _ _ | with_reducible exact Gro.refl_drewN _ _ _ _ | assumption | with_reducible apply Gro.more | with_reducible apply Gro.alloc | with_reducible apply Gro.drew | with_reducible apply Gro.drewN))) (Ty.up _ (mkProcess_read hM_g0).2.2.1 (by repeat (first | with_reducible exact Gro.refl _ | with_reducible exact Gro.refl_drew _ _ _ | with_reducible exact Gro.refl_drewN _ _ _ _ | assumption | with_reducible apply Gro.more | with_reducible apply Gro.alloc | with_reducible apply Gro.drew | with_reducible apply Gro.drewN))) (Ty.up _ (mkProcess_read hM_g0).2.2.2 (by repeat (first | with_reducible exact Gro.refl _ | with_reducible exact Gro.refl_drew _ _ _ | with_reducible exact Gro.refl_drewN _ _ _ _ | assumption | with_reducible apply Gro.more | with_reducible apply Gro.alloc | with_reducible apply Gro.drew | with_reducible apply Gro.drewN))) (by omega) (by omega)).mono ?_
  rintro e w1 ⟨rfl, os16, d16, rfl⟩
  go_wp2_with (fail)
  refine (heldIntS_l (xs := p.2) (B := _) (Nat.le_refl _) (Ty.up _ (Ty.read _ hM_g1) (by repeat (first | with_reducible exact Gro.refl _ | with_reducible exact Gro.refl_drew _ _ _ | with_reducible exact Gro.refl_drewN _ _ _ _ | assumption | with_reducible apply Gro.more | with_reducible apply Gro.alloc | with_reducible apply Gro.drew | with_reducible apply Gro.drewN))) (by omega) (by omega)).mono ?_
  rintro e w1 ⟨rfl, osh2, dh2, rfl⟩
  go_wp2
  go_ret
  exact ⟨rfl, (by repeat (first | with_reducible exact Gro.refl _ | with_reducible exact Gro.refl_drew _ _ _ | with_reducible exact Gro.refl_drewN _ _ _ _ | assumption | with_reducible apply Gro.more | with_reducible apply Gro.alloc | with_reducible apply Gro.drew | with_reducible apply Gro.drewN))⟩

set_option maxRecDepth 100000 in
theorem lifted (os : Os) (started : os.Started) (H : Type) (enc : TypeId × Value → H) :
    ReturnsInHanded {} Try.checked os 9 .any (Rows.fnExactRunProcessSpec.pre6 enc Try.prog Try.f9 Rows.fnExactRunProcessRow.domain false) (Rows.fnExactRunProcessSpec.post enc Try.prog Try.f9 false true false false) := by
  refine returnsInHanded_of_change (C := Try.checked) own started (by kernel_rfl) Try.func9
    (ChangeSpec.witness6 (enc := enc) (C := Try.checked) false ⟨#[], #[.agg #[.slice none 0 0, .slice none 0 0, .slice none 0 0, .slice none 0 0, .int .i64 0, .int .i64 0, .int .i64 0], .int .i64 0], []⟩ 8 (by kernel_rfl) (by kernel_rfl) (by kernel_rfl) (by kernel_rfl)) ?_
  intro W base args ds gs before hval0 hW hcnd _
  have hval : ∀ (j : Nat) t v, Try.f9.params[j]? = some t → args[j]? = some v → Value.okWide Try.prog W .any base t v := hval0
  have hW' := hW
  obtain ⟨p, q, hA0, hV, rfl, hfz, hnd⟩ := hW
  have hA : DataW.TrodAll enc Try.prog W 0 (fun _ => true) true Try.f9.params.toList args.toList ds p := hA0
  rw [Try.params9] at hA hval
  obtain ⟨v0, vs0, d0, ds0, p0, q0, hargs, rfl, rfl, h0, r0⟩ := trodAll_cons hA
  obtain ⟨v1, vs1, d1, ds1, p1, q1, rfl, rfl, rfl, h1, r1⟩ := trodAll_cons r0
  obtain ⟨rfl, rfl, rfl⟩ := trodAll_nil r1
  obtain rfl : args = #[v0, v1] := by cases args; simp_all
  obtain ⟨rfl, rfl⟩ := trodVars_none hV
  have k0 := h0
  have lt0 : ∀ x ∈ p0, x.block < W.heap.size := by obtain ⟨m, hm⟩ := k0; exact DataW.trod_lt m _ _ _ hm
  obtain ⟨cs0, rfl⟩ := arg_agg Try.underlying28 (hval 0 28 v0 rfl rfl)
  obtain ⟨a0, w0⟩ := arg_open tProcess_opens h0
  have k1 := h1
  have lt1 : ∀ x ∈ p1, x.block < W.heap.size := by obtain ⟨m, hm⟩ := k1; exact DataW.trod_lt m _ _ _ hm
  obtain ⟨a1, rfl, rfl, rfl, w1⟩ := open_int Try.underlying3 (hval 1 3 v1 rfl rfl) h1
  clear hA0 hval0
  refine (walk W cs0 a0 w0 a1 (wf_bounds w1).1 (wf_bounds w1).2).mono fun e W' ⟨he, hgro⟩ => ?_
  subst he
  have bel := hgro.below
  exact ⟨_, rfl, _, _, _, [], _, [], hW', trodAll_mk1 (shut_bool Try.underlying4 _), (trodAll_cons_mk (Below.trod laidOut (by kernel_rfl) (of_decide_eq_true (by kernel_rfl)) k0 bel lt0) (trodAll_cons_mk (Below.trod laidOut (by kernel_rfl) (of_decide_eq_true (by kernel_rfl)) k1 bel lt1) trodAll_mk0)), rfl, bel.frame _, fun h => by cases h⟩
theorem over : Rows.fnExactRunProcessRow.holds Try.pinned (OpenSpec.ofChange Rows.fnExactRunProcessSpec) :=
  OpenClaim.holds_of_wide 9 Try.f9 rfl rfl rfl rfl rfl rfl rfl ⟨rfl, rfl, rfl, rfl, rfl⟩ rfl rfl rfl rfl rfl (by kernel_rfl) Try.func9 (by kernel_rfl)
    (of_decide_eq_true (by kernel_rfl)) (by unfold Func.isWrapper; first | (rw [if_pos (by decide +kernel)]; kernel_rfl) | (rw [if_neg (by decide +kernel)]; exact ⟨rfl, rfl⟩))
    (fun os started H enc _ => lifted os started H enc)
/-- THE STATEMENT -/
theorem proved : Rows.FnExactRunProcessSaid := over
#print axioms proved
end Go.Proofs.Ytbhobjepjaeffaa.fnExactRunProcess
