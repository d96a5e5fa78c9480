/-
  PART 5 of the texts of this claim, one behind the other: contracts and laws that the last part uses.
-/
import Derived.Test.YtbhobjepjaeffaaAllDLawRunProcess
set_option linter.unusedVariables false
set_option linter.unusedSimpArgs false
namespace Go.Proofs.Ytbhobjepjaeffaa
open Go.RowKit
theorem StS.make {B : List (Nat × Obj)} {W1 W2 : World} {N : Nat} {m : DMachine} {A : Option Addr} {c : Nat} {Ao : Option Addr} {co : Nat} {row : Array Value} (hrow : row = #[.int .i64 m.Pc, .int .i64 m.Sp, .int .i64 m.Fp, .slice A m.Stack.length c, .slice Ao m.Out.length co, .int .i64 m.State, .int .i64 m.Value, .bool false])
    (hF : Fresh tMachine W1 W2 [.int .i64 m.Pc, .int .i64 m.Sp, .int .i64 m.Fp, .slice A m.Stack.length c, .slice Ao m.Out.length co, .int .i64 m.State, .int .i64 m.Value] m)
    (hg2 : Gro W1 W2) (hB : ∀ p ∈ B, W1.heap[p.1]? = some p.2) (hk : MOk N m) :
    StS B W1 (W2.alloc (.cells row 164)) N W2.heap.size false m := by
  obtain ⟨S9, hO, hN, hL⟩ := hF
  have hlt := Ty.ltO _ hO
  obtain ⟨A', c', S, Ao', co', So, hcs, rfl, _, _, _, h3, h4, _, _⟩ := tMachine_O hO
  injection hcs with _ hcs
  injection hcs with _ hcs
  injection hcs with _ hcs
  injection hcs with e3 hcs
  injection hcs with e4 _
  injection e3 with a1 a2 a3
  injection e4 with b1 b2 b3
  subst a1 a3 b1 b3
  rw [List.nodup_append] at hN
  obtain ⟨n1, n2, n3⟩ := hN
  have hgA : Gro W2 (W2.alloc (.cells row 164)) := (Gro.refl _).alloc _
  have hw2 := hg2.size
  refine ⟨A, c, S, Ao, co, So, ?_, Has.gro ⟨h3, n1⟩ hgA, Has.gro ⟨h4, n2⟩ hgA, fun b hb hm => n3 b hb b hm rfl, ⟨fun hm => ?_, fun hm => ?_⟩, hk, hg2.trans hgA, by omega, fun b hb => ?_, fun b hb => ?_, fun p hp => ?_⟩
  · rw [← hrow]
    exact heap_alloc_new W2 _
  · have := hlt _ (List.mem_append_left _ hm); omega
  · have := hlt _ (List.mem_append_right _ hm); omega
  · have := hL b (List.mem_append_left _ hb); omega
  · have := hL b (List.mem_append_right _ hb); omega
  · have h1 := hB p hp
    have hl := (Array.getElem?_eq_some_iff.1 h1).1
    refine ⟨grow_blk (grow_blk h1 hg2) hgA, by omega, fun hm => ?_, fun hm => ?_⟩
    · have := hL _ (List.mem_append_left _ hm); omega
    · have := hL _ (List.mem_append_right _ hm); omega
theorem StS.all {B : List (Nat × Obj)} {Y W : World} {N gc : Nat} {bad : Bool} {m : DMachine} (h : StS B Y W N gc bad m) : ∃ A c Ao co S,
    W.heap[gc]? = some (.cells #[.int .i64 m.Pc, .int .i64 m.Sp, .int .i64 m.Fp, .slice A m.Stack.length c, .slice Ao m.Out.length co, .int .i64 m.State, .int .i64 m.Value, .bool bad] 164 (0, 0)) ∧ MOk N m ∧
    Has tMachine W [.int .i64 m.Pc, .int .i64 m.Sp, .int .i64 m.Fp, .slice A m.Stack.length c, .slice Ao m.Out.length co, .int .i64 m.State, .int .i64 m.Value] m S ∧ (∀ b ∈ S, Y.heap.size ≤ b) ∧ ∀ p ∈ B, p.1 ∉ S := by
  obtain ⟨A, c, S, Ao, co, So, h⟩ := h
  refine ⟨A, c, Ao, co, S ++ So, h.core, h.ok, ⟨tMachine_mkOd h.ok.pc h.ok.sp h.ok.fp h.stack.1 h.out.1 h.ok.st h.ok.va, List.nodup_append.2 ⟨h.stack.2, h.out.2, fun a ha b hb he => h.dis a ha (he ▸ hb)⟩⟩, fun b hb => ?_, fun p hp hm => ?_⟩
  · rcases List.mem_append.1 hb with hb | hb
    · exact h.ls b hb
    · exact h.lo b hb
  · obtain ⟨_, _, h4, h5⟩ := h.kb p hp
    rcases List.mem_append.1 hm with hb | hb
    · exact h4 hb
    · exact h5 hb
theorem machine_stop {w W : World} {m : DMachine} {A Ao : Option Addr} {c co : Nat} {v : Value} (hF : Fresh tMachine w W [.int .i64 m.Pc, .int .i64 m.Sp, .int .i64 m.Fp, .slice A m.Stack.length c, .slice Ao m.Out.length co, v, .int .i64 m.Value] m) :
    Fresh tMachine w W [.int .i64 m.Pc, .int .i64 m.Sp, .int .i64 m.Fp, .slice A m.Stack.length c, .slice Ao m.Out.length co, .int .i64 2, .int .i64 m.Value] { m with State := 2 } := by
  obtain ⟨S9, hO, hN, hL⟩ := hF
  obtain ⟨A', c', S, Ao', co', So, hcs, rfl, p0, p1, p2, h3, h4, _, p6⟩ := tMachine_O hO
  injection hcs with _ hcs
  injection hcs with _ hcs
  injection hcs with _ hcs
  injection hcs with e3 hcs
  injection hcs with e4 _
  injection e3 with a1 a2 a3
  injection e4 with b1 b2 b3
  subst a1 a3 b1 b3
  have i2 : I64 2 := ⟨by decide, by decide⟩
  exact ⟨_, tMachine_mkOd (x := { m with State := 2 }) p0 p1 p2 h3 h4 i2 p6, hN, hL⟩
theorem stepM_fetch (s : DSpace) (m : DMachine) : stepM s m = if (fetchM s m.Pc).ok = true then (((performM s.Entries { m with Pc := m.Pc + ((fetchM s m.Pc).n : Int) } (fetchM s m.Pc).code (fetchM s m.Pc).arg).bind endM).getD { m with State := 2 }) else { m with State := 2 } := by
  unfold stepM fetchM
  simp only
  by_cases h : (loc s m.Pc).1 < 0
  · rw [if_pos h, if_pos h]
    rfl
  · rw [if_neg h, if_neg h]
    cases s.Images[(loc s m.Pc).1.toNat]? with
    | none => rfl
    | some i => rfl
theorem fetchM_bd {s : DSpace} {a : Int} (hst : ∀ x ∈ s.Images, x.Code.size ≤ 1099511627776) (hbs : ∀ b ∈ s.Bases, btw b 1 1000000 = true) (h : (fetchM s a).ok = true) :
    (1 ≤ a ∧ a ≤ 1099512627776) ∧ (fetchM s a).n ≤ 5 ∧ (0 ≤ (fetchM s a).code ∧ (fetchM s a).code ≤ 17) ∧ ArgOk (fetchM s a).code (fetchM s a).arg ∧ I64 (fetchM s a).arg := by
  rcases locGo_res s.Images s.Bases a 0 with h1 | ⟨j, y, b, hj, hb, h1, hb1, hb2⟩
  · have h2 : fetchM s a = ⟨0, 0, 0, false⟩ := by unfold fetchM loc; rw [h1]; rfl
    rw [h2] at h
    cases h
  · rw [Nat.zero_add] at h1
    have h2 : fetchM s a = decOp y.Code (a - b) := by
      unfold fetchM loc
      rw [h1]
      simp only
      rw [if_neg (by omega), Int.toNat_natCast, hj]
    rw [h2] at h ⊢
    have hys := hst y (List.mem_of_getElem? hj)
    have hbb := btw_iff.1 (hbs b (List.mem_of_getElem? hb))
    have ho := decOp_ok (s := y.Code) (a := a - b) rfl h
    have ha := decOp_arg (s := y.Code) (a := a - b) rfl
    exact ⟨⟨by omega, by omega⟩, by omega, ⟨ho.2.2.2.2.1, ho.2.2.2.2.2⟩, decOp_bd rfl, ⟨by omega, by omega⟩⟩
theorem alloc3 (w : World) (ca cb cc : Array Value) (ta tb tc : TypeId) : (((w.alloc (.cells ca ta)).alloc (.cells cb tb)).alloc (.cells cc tc)).heap[w.heap.size]? = some (.cells ca ta (0, 0)) ∧ (((w.alloc (.cells ca ta)).alloc (.cells cb tb)).alloc (.cells cc tc)).heap[w.heap.size + 1]? = some (.cells cb tb (0, 0)) ∧
    (((w.alloc (.cells ca ta)).alloc (.cells cb tb)).alloc (.cells cc tc)).heap[w.heap.size + 1 + 1]? = some (.cells cc tc (0, 0)) := by
  refine ⟨grow_blk (heap_alloc_new w _) (by (repeat (first | with_reducible exact Gro.refl _ | with_reducible exact Gro.refl_drew _ _ _ | with_reducible exact Gro.refl_drewN _ _ _ _ | assumption | with_reducible apply Gro.more | with_reducible apply Gro.alloc | with_reducible apply Gro.drew | with_reducible apply Gro.drewN)); done), ?_, ?_⟩
  · have h := heap_alloc_new (w.alloc (.cells ca ta)) (.cells cb tb)
    rw [World.size_alloc] at h
    exact grow_blk h (by (repeat (first | with_reducible exact Gro.refl _ | with_reducible exact Gro.refl_drew _ _ _ | with_reducible exact Gro.refl_drewN _ _ _ _ | assumption | with_reducible apply Gro.more | with_reducible apply Gro.alloc | with_reducible apply Gro.drew | with_reducible apply Gro.drewN)); done)
  · have h := heap_alloc_new ((w.alloc (.cells ca ta)).alloc (.cells cb tb)) (.cells cc tc)
    rw [World.size_alloc, World.size_alloc] at h
    exact h
set_option maxRecDepth 100000 in
set_option maxHeartbeats 3000000 in
theorem step_s {s : DSpace} {m : DMachine} {N : Nat} {w : World} {A0 A1 A2 A3 A4 : Option Addr} {c0 c1 c2 c3 c4 : Nat} (h0 : (tImage.sl 96).R w w.heap.size [.slice A0 s.Images.length c0] s.Images) (h1 : (intT.sl 3).R w w.heap.size [.slice A1 s.Bases.length c1] s.Bases)
    (h2 : (intT.sl 3).R w w.heap.size [.slice A2 s.Entries.length c2] s.Entries) (h3 : (intT.sl 3).R w w.heap.size [.slice A3 m.Stack.length c3] m.Stack) (h4 : (intT.sl 3).R w w.heap.size [.slice A4 m.Out.length c4] m.Out)
    (hl : s.Images.length = s.Bases.length) (hst : ∀ x ∈ s.Images, x.Code.size ≤ 1099511627776) (hbs : ∀ b ∈ s.Bases, btw b 1 1000000 = true) (hk : MOk N m) (hN : N ≤ 1099511620000) (hm0 : m.State = 0) :
    Calls Try.prog 107 #[.agg #[.slice A0 s.Images.length c0, .slice A1 s.Bases.length c1, .slice A2 s.Entries.length c2], .agg #[.int .i64 m.Pc, .int .i64 m.Sp, .int .i64 m.Fp, .slice A3 m.Stack.length c3, .slice A4 m.Out.length c4, .int .i64 m.State, .int .i64 m.Value]] w (fun r w' => RetMachine (stepM s m) w r w' ∧ MOk (N + 1) (stepM s m)) := by
  obtain ⟨_, _, hx', hel, hem⟩ := sl_at h2
  injection hx' with e1 e2 e3
  subst e1 e3
  clear e2
  have hG0 : Gro w (((w.alloc (.cells #[.slice A0 s.Images.length c0, .slice A1 s.Bases.length c1, .slice A2 s.Entries.length c2] 33)).alloc (.cells #[.int .i64 m.Pc, .int .i64 m.Sp, .int .i64 m.Fp, .slice A3 m.Stack.length c3, .slice A4 m.Out.length c4, .int .i64 0, .int .i64 m.Value] 80)).alloc (.cells #[.int .i64 0, .int .i64 0, .int .i64 0, .slice none 0 0, .slice none 0 0, .int .i64 0, .int .i64 0] 80)) := (by repeat (first | with_reducible exact Gro.refl _ | with_reducible exact Gro.refl_drew _ _ _ | with_reducible exact Gro.refl_drewN _ _ _ _ | assumption | with_reducible apply Gro.more | with_reducible apply Gro.alloc | with_reducible apply Gro.drew | with_reducible apply Gro.drewN))
  obtain ⟨eb0, eb1, eb2⟩ := alloc3 w #[.slice A0 s.Images.length c0, .slice A1 s.Bases.length c1, .slice A2 s.Entries.length c2] #[.int .i64 m.Pc, .int .i64 m.Sp, .int .i64 m.Fp, .slice A3 m.Stack.length c3, .slice A4 m.Out.length c4, .int .i64 0, .int .i64 m.Value] #[.int .i64 0, .int .i64 0, .int .i64 0, .slice none 0 0, .slice none 0 0, .int .i64 0, .int .i64 0] 33 80 80
  have k0 := Ty.up _ h0 hG0
  have k1 := Ty.up _ h1 hG0
  have k2 := Ty.up _ h2 hG0
  have k3 := Ty.up _ h3 hG0
  have k4 := Ty.up _ h4 hG0
  have HLL := Lib.hid hl
  have HST := Lib.hid hst
  have HBS := Lib.hid hbs
  have HKS := Lib.hid hk.stop
  have HM := Lib.hid hk
  have HM0 := Lib.hid hm0
  have hpc := hk.pc
  have i1 : I64 1 := ⟨by decide, by decide⟩
  have hszm : szMachine m ≤ 1099511627776 := by
    have h1 := hk.len
    have h2 := hk.out
    unfold szMachine
    omega
  have HMS := Lib.hid hszm
  obtain ⟨r, hr⟩ : ∃ r, fetchM s m.Pc = r := ⟨_, rfl⟩
  have HQ0 := stepM_fetch s m
  have hbd := fetchM_bd (a := m.Pc) hst hbs
  rw [hr] at HQ0 hbd
  have HR := Lib.hid hr
  obtain ⟨rok, hrok⟩ : ∃ q, r.ok = q := ⟨_, rfl⟩
  rw [hrok] at HQ0 hbd
  have hcm := copyMachine_s (x := m) hpc hk.sp hk.fp k3 k4 hk.st hk.va hszm
  rw [hm0] at hcm
  have HCM := Lib.hid hcm
  clear hl hst hbs hk hszm hr hcm
  obtain ⟨g, hg⟩ : ∃ g, w.heap.size = g := ⟨_, rfl⟩
  go_enter Try.func107, Try.ntmps107
  go_upto_region 1 with (fail)
  rw [hg] at eb0 eb1 eb2
  clear hm0
  generalize (((w.alloc (.cells #[.slice A0 s.Images.length c0, .slice A1 s.Bases.length c1, .slice A2 s.Entries.length c2] 33)).alloc (.cells #[.int .i64 m.Pc, .int .i64 m.Sp, .int .i64 m.Fp, .slice A3 m.Stack.length c3, .slice A4 m.Out.length c4, .int .i64 0, .int .i64 m.Value] 80)).alloc (.cells #[.int .i64 0, .int .i64 0, .int .i64 0, .slice none 0 0, .slice none 0 0, .int .i64 0, .int .i64 0] 80)) = W1 at hG0 eb0 eb1 eb2 k0 k1 k2 k3 k4 HCM ⊢
  have hGW := hG0
  have hw1 := hGW.size
  clear h0 h1 h2 h3 h4 hG0
  obtain ⟨a0, a1, a2, af, al⟩ := row3 eb0
  obtain ⟨b0', b1', b2', b3', b4', b5', b6', bf, bl⟩ := row7 eb1
  go_upto_region 2 with (go_at_call 106; (with_reducible refine HCM.out.mono ?_); rintro e w3 ⟨B0, d0, B1, d1, rfl, hFm, os3, d3, rfl⟩)
  have hC := StS.make (B := [(g, Obj.cells #[.slice A0 s.Images.length c0, .slice A1 s.Bases.length c1, .slice A2 s.Entries.length c2] 33 (0, 0)), (g + 1, Obj.cells #[.int .i64 m.Pc, .int .i64 m.Sp, .int .i64 m.Fp, .slice A3 m.Stack.length c3, .slice A4 m.Out.length c4, .int .i64 0, .int .i64 m.Value] 80 (0, 0)), (g + 1 + 1, Obj.cells #[.int .i64 0, .int .i64 0, .int .i64 0, .slice none 0 0, .slice none 0 0, .int .i64 0, .int .i64 0] 80 (0, 0))]) (N := N) (row := #[.int .i64 m.Pc, .int .i64 m.Sp, .int .i64 m.Fp, .slice B0 m.Stack.length d0, .slice B1 m.Out.length d1, .int .i64 m.State, .int .i64 m.Value, .bool false]) rfl hFm (Gro.of W1 os3 d3) (by
    intro p hp
    simp only [List.mem_cons, List.not_mem_nil, or_false] at hp
    rcases hp with rfl | rfl | rfl
    · exact eb0
    · exact eb1
    · exact eb2) HM.out
  rw [gro_size] at hC
  obtain ⟨gc, hgc⟩ : ∃ gc, W1.heap.size + os3.size = gc := ⟨_, rfl⟩
  rw [hgc] at hC ⊢
  generalize (gro W1 os3 d3).alloc (.cells #[.int .i64 m.Pc, .int .i64 m.Sp, .int .i64 m.Fp, .slice B0 m.Stack.length d0, .slice B1 m.Out.length d1, .int .i64 m.State, .int .i64 m.Value, .bool false] 164) = wc at hC ⊢
  have HC := Lib.hid hC
  clear hC hgc hFm b0' b1' b2' b3' b4' b5' b6' bf bl a0 a1 a2 af al HCM
  obtain ⟨a0, a1, a2, af, al⟩ := row3 (HC.out.kept (g := g) (.head _))
  obtain ⟨b0', b1', b2', b3', b4', b5', b6', bf, bl⟩ := row7 (HC.out.kept (g := g + 1) (.tail _ (.head _)))
  have f0 := Ty.up _ k0 HC.out.grow
  have f1 := Ty.up _ k1 HC.out.grow
  go_upto_region 3 with (go_at_call 127; (with_reducible refine (fetch_s (s := s) f0 f1 HLL.out HST.out HBS.out hpc).mono ?_); rw [HR.out]; rintro e w4 ⟨rfl, os4, d4, rfl⟩)
  have hC2 := (HC.out.gro (Gro.of wc os4 d4)).allocB (cs := #[.int .i64 r.code, .int .i64 r.arg]) (t := 166)
  rw [gro_size] at hC2
  obtain ⟨g5, hg5⟩ : ∃ g5, wc.heap.size + os4.size = g5 := ⟨_, rfl⟩
  rw [hg5] at hC2 ⊢
  generalize (gro wc os4 d4).alloc (.cells #[.int .i64 r.code, .int .i64 r.arg] 166) = w5 at hC2 ⊢
  have HC2 := Lib.hid hC2
  clear hC2 hg5 HC a0 a1 a2 af al b0' b1' b2' b3' b4' b5' b6' bf bl f0 f1
  cases rok with
  | false =>
    have HS := Lib.hid (HQ0.trans (if_neg (by simp)))
    clear HQ0 hbd
    have kk3 := Ty.up _ k3 HC2.out.grow
    have kk4 := Ty.up _ k4 HC2.out.grow
    have hcm := copyMachine_s (x := m) hpc HM.out.sp HM.out.fp kk3 kk4 HM.out.st HM.out.va HMS.out
    rw [HM0.out] at hcm
    have HCM := Lib.hid hcm
    clear hcm
    obtain ⟨x0, x1, x2, x3, x4, x5, x6, xf, xl⟩ := row7 (HC2.out.kept (g := g + 1) (.tail _ (.tail _ (.head _))))
    go_upto_region 8 with (go_at_call 106; (with_reducible refine HCM.out.mono ?_); rintro e w8 ⟨C0, e0, C1, e1, rfl, hFm, os8, d8, rfl⟩)
    have hst2 := machine_stop hFm
    have hgo : Gro w5 ((gro w5 os8 d8).alloc (.cells #[.int .i64 m.Pc, .int .i64 m.Sp, .int .i64 m.Fp, .slice C0 m.Stack.length e0, .slice C1 m.Out.length e1, .int .i64 2, .int .i64 m.Value] 80)) := (by repeat (first | with_reducible exact Gro.refl _ | with_reducible exact Gro.refl_drew _ _ _ | with_reducible exact Gro.refl_drewN _ _ _ _ | assumption | with_reducible apply Gro.more | with_reducible apply Gro.alloc | with_reducible apply Gro.drew | with_reducible apply Gro.drewN))
    have eM := heap_alloc_new (gro w5 os8 d8) (.cells #[.int .i64 m.Pc, .int .i64 m.Sp, .int .i64 m.Fp, .slice C0 m.Stack.length e0, .slice C1 m.Out.length e1, .int .i64 2, .int .i64 m.Value] 80)
    have hz := grow_blk (HC2.out.kept (g := g + 1 + 1) (.tail _ (.tail _ (.tail _ (.head _))))) hgo
    obtain ⟨SS, hHs0, hlS⟩ := Fresh.has hst2
    have hHs := hHs0.gro (W' := (gro w5 os8 d8).alloc (.cells #[.int .i64 m.Pc, .int .i64 m.Sp, .int .i64 m.Fp, .slice C0 m.Stack.length e0, .slice C1 m.Out.length e1, .int .i64 2, .int .i64 m.Value] 80)) (by (repeat (first | with_reducible exact Gro.refl _ | with_reducible exact Gro.refl_drew _ _ _ | with_reducible exact Gro.refl_drewN _ _ _ _ | assumption | with_reducible apply Gro.more | with_reducible apply Gro.alloc | with_reducible apply Gro.drew | with_reducible apply Gro.drewN)); done)
    have hGw := (hGW.trans HC2.out.grow).trans hgo
    have hl2 := (Array.getElem?_eq_some_iff.1 (HC2.out.kept (g := g + 1 + 1) (.tail _ (.tail _ (.tail _ (.head _)))))).1
    have hl9 := (hGW.trans HC2.out.grow).size
    rw [gro_size] at eM
    generalize (gro w5 os8 d8).alloc (.cells #[.int .i64 m.Pc, .int .i64 m.Sp, .int .i64 m.Fp, .slice C0 m.Stack.length e0, .slice C1 m.Out.length e1, .int .i64 2, .int .i64 m.Value] 80) = w9 at hgo eM hz hHs hGw ⊢
    obtain ⟨v0, v1, v2, v3, v4, v5, v6, vf, vl⟩ := row7 eM
    obtain ⟨u0, u1, u2, u3, u4, u5, u6, uf, ul⟩ := row7 hz
    go_wp2_with (fail)
    have h9 := set7 hz (.int .i64 m.Pc) (.int .i64 m.Sp) (.int .i64 m.Fp) (.slice C0 m.Stack.length e0) (.slice C1 m.Out.length e1) (.int .i64 2) (.int .i64 m.Value)
    generalize (((((((w9.setCell ⟨g + 1 + 1, 0, none⟩ (.int .i64 m.Pc)).setCell ⟨g + 1 + 1, 1, none⟩ (.int .i64 m.Sp)).setCell ⟨g + 1 + 1, 2, none⟩ (.int .i64 m.Fp)).setCell ⟨g + 1 + 1, 3, none⟩ (.slice C0 m.Stack.length e0)).setCell ⟨g + 1 + 1, 4, none⟩ (.slice C1 m.Out.length e1)).setCell ⟨g + 1 + 1, 5, none⟩ (.int .i64 2)).setCell ⟨g + 1 + 1, 6, none⟩ (.int .i64 m.Value)) = X at h9 ⊢
    obtain ⟨r0, r1, r2, r3, r4, r5, r6, _, _⟩ := row7 h9.1
    have hGX := h9.2.gro hGw (fun b hb' => by simp at hb'; omega)
    have hF9 := hHs.keep h9.2 (fun b hb' hm => by simp at hm; have h1 := hlS _ hb'; omega)
    rw [HS.out]
    exact bodyPost_ret (v := .agg #[.int .i64 m.Pc, .int .i64 m.Sp, .int .i64 m.Fp, .slice C0 m.Stack.length e0, .slice C1 m.Out.length e1, .int .i64 2, .int .i64 m.Value]) (by simp [results, Try.results107, go_sem, r0, r1, r2, r3, r4, r5, r6]) rfl ⟨⟨C0, e0, C1, e1, rfl, hF9.fresh (fun b hb' => by have h1 := hlS b hb'; omega), hGX⟩, HKS.out⟩
  | true =>
    have HQ := Lib.hid (HQ0.trans (if_pos rfl))
    obtain ⟨hpb, hn5, hcb, hao, hai⟩ := hbd rfl
    have HAO := Lib.hid hao
    clear HQ0 hbd hao
    obtain ⟨q0, q1, q2, qf, ql⟩ := row3 (HC2.out.kept (g := g) (.tail _ (.head _)))
    obtain ⟨o0, o1, of0, of1, ol⟩ := box2 (HC2.out.kept (g := g5) (.head _))
    go_upto_region 5 with (go_at_call 128; (with_reducible refine (perform_s (es := s.Entries) HC2.out k2 (by omega) (by omega) ⟨by omega, by omega⟩ hn5 hcb HAO.out hai).mono ?_); rintro e w6 ⟨rfl, b1, m1, hC1, ho1⟩)
    have hQ1 : stepM s m = ((opt b1 m1).bind endM).getD { m with State := 2 } := by rw [HQ.out, ho1]; rfl
    have HQ1 := Lib.hid hQ1
    have HC1 := Lib.hid hC1
    clear hQ1 ho1 q0 q1 q2 qf ql o0 o1 of0 of1 ol HQ hC1 HC2
    obtain ⟨Ay, cy, Aoy, coy, SS, eM, hky, hHs, hlS, hnS⟩ := HC1.out.all
    obtain ⟨z0, z1, z2, z3, z4, z5, z6, z7, zf, zl⟩ := row8 eM
    obtain ⟨u0, u1, u2, u3, u4, u5, u6, uf, ul⟩ := row7 (HC1.out.kept (g := g + 1 + 1) (.tail _ (.tail _ (.tail _ (.head _)))))
    cases b1 with
    | true =>
      have HS := Lib.hid (HQ1.out.trans rfl)
      have kk3 := Ty.up _ k3 HC1.out.grow
      have kk4 := Ty.up _ k4 HC1.out.grow
      have hcm := copyMachine_s (x := m) hpc HM.out.sp HM.out.fp kk3 kk4 HM.out.st HM.out.va HMS.out
      rw [HM0.out] at hcm
      have HCM := Lib.hid hcm
      clear hcm
      obtain ⟨x0, x1, x2, x3, x4, x5, x6, xf, xl⟩ := row7 (HC1.out.kept (g := g + 1) (.tail _ (.tail _ (.head _))))
      go_upto_region 8 with (go_at_call 106; (with_reducible refine HCM.out.mono ?_); rintro e w8 ⟨C0, e0, C1, e1, rfl, hFm, os8, d8, rfl⟩)
      have hst2 := machine_stop hFm
      have hgo : Gro w6 ((gro w6 os8 d8).alloc (.cells #[.int .i64 m.Pc, .int .i64 m.Sp, .int .i64 m.Fp, .slice C0 m.Stack.length e0, .slice C1 m.Out.length e1, .int .i64 2, .int .i64 m.Value] 80)) := (by repeat (first | with_reducible exact Gro.refl _ | with_reducible exact Gro.refl_drew _ _ _ | with_reducible exact Gro.refl_drewN _ _ _ _ | assumption | with_reducible apply Gro.more | with_reducible apply Gro.alloc | with_reducible apply Gro.drew | with_reducible apply Gro.drewN))
      have eM := heap_alloc_new (gro w6 os8 d8) (.cells #[.int .i64 m.Pc, .int .i64 m.Sp, .int .i64 m.Fp, .slice C0 m.Stack.length e0, .slice C1 m.Out.length e1, .int .i64 2, .int .i64 m.Value] 80)
      have hz := grow_blk (HC1.out.kept (g := g + 1 + 1) (.tail _ (.tail _ (.tail _ (.head _))))) hgo
      obtain ⟨SS, hHs0, hlS⟩ := Fresh.has hst2
      have hHs := hHs0.gro (W' := (gro w6 os8 d8).alloc (.cells #[.int .i64 m.Pc, .int .i64 m.Sp, .int .i64 m.Fp, .slice C0 m.Stack.length e0, .slice C1 m.Out.length e1, .int .i64 2, .int .i64 m.Value] 80)) (by (repeat (first | with_reducible exact Gro.refl _ | with_reducible exact Gro.refl_drew _ _ _ | with_reducible exact Gro.refl_drewN _ _ _ _ | assumption | with_reducible apply Gro.more | with_reducible apply Gro.alloc | with_reducible apply Gro.drew | with_reducible apply Gro.drewN)); done)
      have hGw := (hGW.trans HC1.out.grow).trans hgo
      have hl2 := (Array.getElem?_eq_some_iff.1 (HC1.out.kept (g := g + 1 + 1) (.tail _ (.tail _ (.tail _ (.head _)))))).1
      have hl9 := (hGW.trans HC1.out.grow).size
      rw [gro_size] at eM
      generalize (gro w6 os8 d8).alloc (.cells #[.int .i64 m.Pc, .int .i64 m.Sp, .int .i64 m.Fp, .slice C0 m.Stack.length e0, .slice C1 m.Out.length e1, .int .i64 2, .int .i64 m.Value] 80) = w9 at hgo eM hz hHs hGw ⊢
      obtain ⟨v0, v1, v2, v3, v4, v5, v6, vf, vl⟩ := row7 eM
      obtain ⟨u0, u1, u2, u3, u4, u5, u6, uf, ul⟩ := row7 hz
      go_wp2_with (fail)
      have h9 := set7 hz (.int .i64 m.Pc) (.int .i64 m.Sp) (.int .i64 m.Fp) (.slice C0 m.Stack.length e0) (.slice C1 m.Out.length e1) (.int .i64 2) (.int .i64 m.Value)
      generalize (((((((w9.setCell ⟨g + 1 + 1, 0, none⟩ (.int .i64 m.Pc)).setCell ⟨g + 1 + 1, 1, none⟩ (.int .i64 m.Sp)).setCell ⟨g + 1 + 1, 2, none⟩ (.int .i64 m.Fp)).setCell ⟨g + 1 + 1, 3, none⟩ (.slice C0 m.Stack.length e0)).setCell ⟨g + 1 + 1, 4, none⟩ (.slice C1 m.Out.length e1)).setCell ⟨g + 1 + 1, 5, none⟩ (.int .i64 2)).setCell ⟨g + 1 + 1, 6, none⟩ (.int .i64 m.Value)) = X at h9 ⊢
      obtain ⟨r0, r1, r2, r3, r4, r5, r6, _, _⟩ := row7 h9.1
      have hGX := h9.2.gro hGw (fun b hb' => by simp at hb'; omega)
      have hF9 := hHs.keep h9.2 (fun b hb' hm => by simp at hm; have h1 := hlS _ hb'; omega)
      rw [HS.out]
      exact bodyPost_ret (v := .agg #[.int .i64 m.Pc, .int .i64 m.Sp, .int .i64 m.Fp, .slice C0 m.Stack.length e0, .slice C1 m.Out.length e1, .int .i64 2, .int .i64 m.Value]) (by simp [results, Try.results107, go_sem, r0, r1, r2, r3, r4, r5, r6]) rfl ⟨⟨C0, e0, C1, e1, rfl, hF9.fresh (fun b hb' => by have h1 := hlS b hb'; omega), hGX⟩, HKS.out⟩
    | false =>
      by_cases hpz : m1.Pc = 0
      · go_upto_region 11 with (go_at_call 129; (with_reducible refine (word_s HC1.out).mono ?_); rintro e w7 ⟨v1, hv1, rfl, hC3, hW3⟩)
        obtain ⟨q, hq⟩ : ∃ q, btw m1.Sp 0 1199 = q := ⟨_, rfl⟩
        rw [hq] at hC3
        clear Ay cy Aoy coy SS eM hky hHs hlS hnS z0 z1 z2 z3 z4 z5 z6 z7 zf zl u0 u1 u2 u3 u4 u5 u6 uf ul
        cases q with
        | false =>
          have HS := Lib.hid (HQ1.out.trans (show ((some m1).bind endM).getD { m with State := 2 } = { m with State := 2 } from by show (endM m1).getD _ = _; unfold endM; rw [if_pos hpz, cAt_out hq]; rfl))
          have HC3 : Hid (StS _ W1 w7 (N + 1) gc true m1) := Lib.hid hC3
          clear hq hC3 hW3
          obtain ⟨Ay, cy, Aoy, coy, SS, eM, hky, hHs, hlS, hnS⟩ := HC3.out.all
          obtain ⟨z0, z1, z2, z3, z4, z5, z6, z7, zf, zl⟩ := row8 eM
          obtain ⟨u0, u1, u2, u3, u4, u5, u6, uf, ul⟩ := row7 (HC3.out.kept (g := g + 1 + 1) (.tail _ (.tail _ (.tail _ (.head _)))))
          have kk3 := Ty.up _ k3 HC3.out.grow
          have kk4 := Ty.up _ k4 HC3.out.grow
          have hcm := copyMachine_s (x := m) hpc HM.out.sp HM.out.fp kk3 kk4 HM.out.st HM.out.va HMS.out
          rw [HM0.out] at hcm
          have HCM := Lib.hid hcm
          clear hcm
          obtain ⟨x0, x1, x2, x3, x4, x5, x6, xf, xl⟩ := row7 (HC3.out.kept (g := g + 1) (.tail _ (.tail _ (.head _))))
          go_upto_region 14 with (go_at_call 106; (with_reducible refine HCM.out.mono ?_); rintro e w8 ⟨C0, e0, C1, e1, rfl, hFm, os8, d8, rfl⟩)
          have hst2 := machine_stop hFm
          have hgo : Gro w7 ((gro w7 os8 d8).alloc (.cells #[.int .i64 m.Pc, .int .i64 m.Sp, .int .i64 m.Fp, .slice C0 m.Stack.length e0, .slice C1 m.Out.length e1, .int .i64 2, .int .i64 m.Value] 80)) := (by repeat (first | with_reducible exact Gro.refl _ | with_reducible exact Gro.refl_drew _ _ _ | with_reducible exact Gro.refl_drewN _ _ _ _ | assumption | with_reducible apply Gro.more | with_reducible apply Gro.alloc | with_reducible apply Gro.drew | with_reducible apply Gro.drewN))
          have eM := heap_alloc_new (gro w7 os8 d8) (.cells #[.int .i64 m.Pc, .int .i64 m.Sp, .int .i64 m.Fp, .slice C0 m.Stack.length e0, .slice C1 m.Out.length e1, .int .i64 2, .int .i64 m.Value] 80)
          have hz := grow_blk (HC3.out.kept (g := g + 1 + 1) (.tail _ (.tail _ (.tail _ (.head _))))) hgo
          obtain ⟨SS, hHs0, hlS⟩ := Fresh.has hst2
          have hHs := hHs0.gro (W' := (gro w7 os8 d8).alloc (.cells #[.int .i64 m.Pc, .int .i64 m.Sp, .int .i64 m.Fp, .slice C0 m.Stack.length e0, .slice C1 m.Out.length e1, .int .i64 2, .int .i64 m.Value] 80)) (by (repeat (first | with_reducible exact Gro.refl _ | with_reducible exact Gro.refl_drew _ _ _ | with_reducible exact Gro.refl_drewN _ _ _ _ | assumption | with_reducible apply Gro.more | with_reducible apply Gro.alloc | with_reducible apply Gro.drew | with_reducible apply Gro.drewN)); done)
          have hGw := (hGW.trans HC3.out.grow).trans hgo
          have hl2 := (Array.getElem?_eq_some_iff.1 (HC3.out.kept (g := g + 1 + 1) (.tail _ (.tail _ (.tail _ (.head _)))))).1
          have hl9 := (hGW.trans HC3.out.grow).size
          rw [gro_size] at eM
          generalize (gro w7 os8 d8).alloc (.cells #[.int .i64 m.Pc, .int .i64 m.Sp, .int .i64 m.Fp, .slice C0 m.Stack.length e0, .slice C1 m.Out.length e1, .int .i64 2, .int .i64 m.Value] 80) = w9 at hgo eM hz hHs hGw ⊢
          obtain ⟨v0, v1, v2, v3, v4, v5, v6, vf, vl⟩ := row7 eM
          obtain ⟨u0, u1, u2, u3, u4, u5, u6, uf, ul⟩ := row7 hz
          go_wp2_with (fail)
          have h9 := set7 hz (.int .i64 m.Pc) (.int .i64 m.Sp) (.int .i64 m.Fp) (.slice C0 m.Stack.length e0) (.slice C1 m.Out.length e1) (.int .i64 2) (.int .i64 m.Value)
          generalize (((((((w9.setCell ⟨g + 1 + 1, 0, none⟩ (.int .i64 m.Pc)).setCell ⟨g + 1 + 1, 1, none⟩ (.int .i64 m.Sp)).setCell ⟨g + 1 + 1, 2, none⟩ (.int .i64 m.Fp)).setCell ⟨g + 1 + 1, 3, none⟩ (.slice C0 m.Stack.length e0)).setCell ⟨g + 1 + 1, 4, none⟩ (.slice C1 m.Out.length e1)).setCell ⟨g + 1 + 1, 5, none⟩ (.int .i64 2)).setCell ⟨g + 1 + 1, 6, none⟩ (.int .i64 m.Value)) = X at h9 ⊢
          obtain ⟨r0, r1, r2, r3, r4, r5, r6, _, _⟩ := row7 h9.1
          have hGX := h9.2.gro hGw (fun b hb' => by simp at hb'; omega)
          have hF9 := hHs.keep h9.2 (fun b hb' hm => by simp at hm; have h1 := hlS _ hb'; omega)
          rw [HS.out]
          exact bodyPost_ret (v := .agg #[.int .i64 m.Pc, .int .i64 m.Sp, .int .i64 m.Fp, .slice C0 m.Stack.length e0, .slice C1 m.Out.length e1, .int .i64 2, .int .i64 m.Value]) (by simp [results, Try.results107, go_sem, r0, r1, r2, r3, r4, r5, r6]) rfl ⟨⟨C0, e0, C1, e1, rfl, hF9.fresh (fun b hb' => by have h1 := hlS b hb'; omega), hGX⟩, HKS.out⟩
        | true =>
          have HS := Lib.hid (HQ1.out.trans (show ((some m1).bind endM).getD { m with State := 2 } = { m1 with State := 1, Value := v1 } from by show (endM m1).getD _ = _; unfold endM; rw [if_pos hpz, cAt_in hq (v := v1) (hW3 hq)]; rfl))
          have HC3 : Hid (StS _ W1 w7 (N + 1) gc false m1) := Lib.hid hC3
          clear hq hC3 hW3
          obtain ⟨Ay, cy, Aoy, coy, SS, eM, hky, hHs, hlS, hnS⟩ := HC3.out.all
          obtain ⟨z0, z1, z2, z3, z4, z5, z6, z7, zf, zl⟩ := row8 eM
          obtain ⟨u0, u1, u2, u3, u4, u5, u6, uf, ul⟩ := row7 (HC3.out.kept (g := g + 1 + 1) (.tail _ (.tail _ (.tail _ (.head _)))))
          go_upto_region 16 with (fail)
          have hC4 := HC3.out.num (i := 5) (v := .int .i64 1) (bad' := false) (m' := { m1 with State := 1 }) rfl rfl ⟨hky.len, hky.out, hky.pc, hky.sp, hky.fp, i1, hky.va⟩ (fun _ _ => rfl)
          generalize w7.setCell ⟨gc, 5, none⟩ (.int .i64 1) = w8 at hC4 ⊢
          have HC4 := Lib.hid hC4
          clear hC4
          clear Ay cy Aoy coy SS eM hky hHs hlS hnS z0 z1 z2 z3 z4 z5 z6 z7 zf zl u0 u1 u2 u3 u4 u5 u6 uf ul
          obtain ⟨Ay, cy, Aoy, coy, SS, eM, hky, hHs, hlS, hnS⟩ := HC4.out.all
          obtain ⟨z0, z1, z2, z3, z4, z5, z6, z7, zf, zl⟩ := row8 eM
          obtain ⟨u0, u1, u2, u3, u4, u5, u6, uf, ul⟩ := row7 (HC4.out.kept (g := g + 1 + 1) (.tail _ (.tail _ (.tail _ (.head _)))))
          go_upto_region 17 with (fail)
          have hC5 := HC4.out.num (i := 6) (v := .int .i64 v1) (bad' := false) (m' := { m1 with State := 1, Value := v1 }) rfl rfl ⟨hky.len, hky.out, hky.pc, hky.sp, hky.fp, hky.st, hv1⟩ (fun _ _ => rfl)
          have hSS := HS.out
          obtain ⟨m3, hm3⟩ : ∃ m3, ({ m1 with State := 1, Value := v1 } : DMachine) = m3 := ⟨_, rfl⟩
          rw [hm3] at hC5 hSS
          clear HS hm3
          have HS := Lib.hid hSS
          generalize w8.setCell ⟨gc, 6, none⟩ (.int .i64 v1) = w9 at hC5 ⊢
          have HC5 := Lib.hid hC5
          clear hC5 hSS
          clear Ay cy Aoy coy SS eM hky hHs hlS hnS z0 z1 z2 z3 z4 z5 z6 z7 zf zl u0 u1 u2 u3 u4 u5 u6 uf ul
          obtain ⟨Ay, cy, Aoy, coy, SS, eM, hky, hHs, hlS, hnS⟩ := HC5.out.all
          obtain ⟨z0, z1, z2, z3, z4, z5, z6, z7, zf, zl⟩ := row8 eM
          obtain ⟨u0, u1, u2, u3, u4, u5, u6, uf, ul⟩ := row7 (HC5.out.kept (g := g + 1 + 1) (.tail _ (.tail _ (.tail _ (.head _)))))
          go_wp2_with (fail)
          have hw1 := hGW.size
          have h9 := set7 (HC5.out.kept (g := g + 1 + 1) (.tail _ (.tail _ (.tail _ (.head _))))) (.int .i64 m3.Pc) (.int .i64 m3.Sp) (.int .i64 m3.Fp) (.slice Ay m3.Stack.length cy) (.slice Aoy m3.Out.length coy) (.int .i64 m3.State) (.int .i64 m3.Value)
          generalize (((((((w9.setCell ⟨g + 1 + 1, 0, none⟩ (.int .i64 m3.Pc)).setCell ⟨g + 1 + 1, 1, none⟩ (.int .i64 m3.Sp)).setCell ⟨g + 1 + 1, 2, none⟩ (.int .i64 m3.Fp)).setCell ⟨g + 1 + 1, 3, none⟩ (.slice Ay m3.Stack.length cy)).setCell ⟨g + 1 + 1, 4, none⟩ (.slice Aoy m3.Out.length coy)).setCell ⟨g + 1 + 1, 5, none⟩ (.int .i64 m3.State)).setCell ⟨g + 1 + 1, 6, none⟩ (.int .i64 m3.Value)) = X at h9 ⊢
          obtain ⟨r0, r1, r2, r3, r4, r5, r6, _, _⟩ := row7 h9.1
          have hGX := h9.2.gro (hGW.trans HC5.out.grow) (fun b hb' => by simp at hb'; omega)
          have hF9 := hHs.keep h9.2 (fun b hb' hm => by simp at hm; exact hnS _ (.tail _ (.tail _ (.tail _ (.head _)))) (hm ▸ hb'))
          rw [HS.out]
          exact bodyPost_ret (v := .agg #[.int .i64 m3.Pc, .int .i64 m3.Sp, .int .i64 m3.Fp, .slice Ay m3.Stack.length cy, .slice Aoy m3.Out.length coy, .int .i64 m3.State, .int .i64 m3.Value]) (by simp [results, Try.results107, go_sem, r0, r1, r2, r3, r4, r5, r6]) rfl ⟨⟨Ay, cy, Aoy, coy, rfl, hF9.fresh (fun b hb' => by have h1 := hlS b hb'; omega), hGX⟩, hky⟩
      · have HS := Lib.hid (HQ1.out.trans (show ((some m1).bind endM).getD { m with State := 2 } = m1 from by show (endM m1).getD _ = _; unfold endM; rw [if_neg hpz]; rfl))
        go_wp2_with (fail)
        have hw1 := hGW.size
        have h9 := set7 (HC1.out.kept (g := g + 1 + 1) (.tail _ (.tail _ (.tail _ (.head _))))) (.int .i64 m1.Pc) (.int .i64 m1.Sp) (.int .i64 m1.Fp) (.slice Ay m1.Stack.length cy) (.slice Aoy m1.Out.length coy) (.int .i64 m1.State) (.int .i64 m1.Value)
        generalize (((((((w6.setCell ⟨g + 1 + 1, 0, none⟩ (.int .i64 m1.Pc)).setCell ⟨g + 1 + 1, 1, none⟩ (.int .i64 m1.Sp)).setCell ⟨g + 1 + 1, 2, none⟩ (.int .i64 m1.Fp)).setCell ⟨g + 1 + 1, 3, none⟩ (.slice Ay m1.Stack.length cy)).setCell ⟨g + 1 + 1, 4, none⟩ (.slice Aoy m1.Out.length coy)).setCell ⟨g + 1 + 1, 5, none⟩ (.int .i64 m1.State)).setCell ⟨g + 1 + 1, 6, none⟩ (.int .i64 m1.Value)) = X at h9 ⊢
        obtain ⟨r0, r1, r2, r3, r4, r5, r6, _, _⟩ := row7 h9.1
        have hGX := h9.2.gro (hGW.trans HC1.out.grow) (fun b hb' => by simp at hb'; omega)
        have hF9 := hHs.keep h9.2 (fun b hb' hm => by simp at hm; exact hnS _ (.tail _ (.tail _ (.tail _ (.head _)))) (hm ▸ hb'))
        rw [HS.out]
        exact bodyPost_ret (v := .agg #[.int .i64 m1.Pc, .int .i64 m1.Sp, .int .i64 m1.Fp, .slice Ay m1.Stack.length cy, .slice Aoy m1.Out.length coy, .int .i64 m1.State, .int .i64 m1.Value]) (by simp [results, Try.results107, go_sem, r0, r1, r2, r3, r4, r5, r6]) rfl ⟨⟨Ay, cy, Aoy, coy, rfl, hF9.fresh (fun b hb' => by have h1 := hlS b hb'; omega), hGX⟩, hky⟩
end Go.Proofs.Ytbhobjepjaeffaa
namespace Go.Proofs.Ytbhobjepjaeffaa
open Go.RowKit
theorem own_put2 {α : Type} {T : Ty α} {e : TypeId} {w : World} {A : Option Addr} {n c : Nat} {xs : List α} {S : List Nat} (h : Has (T.sl e) w [.slice A n c] xs S) {k : Nat} {x : α} (hx : xs[k]? = some x) :
    ∃ g ec Sc, A = some ⟨g, 0, none⟩ ∧ g ∈ S ∧ g < w.heap.size ∧ g ∉ Sc ∧ (∀ j ∈ Sc, j ∈ S) ∧ Has T w ec x Sc ∧ (∀ j, w.frozen? ⟨g, j, none⟩ = false) ∧ (∀ j u, ec[j]? = some u → w.cell? ⟨g, k * T.size + j, none⟩ = some u) ∧
      (∀ ec' y Sy, Has T w ec' y Sy → (∀ b ∈ Sy, b ∉ S ∨ b ∈ Sc) → OnlyS [g] w (setRow w g (k * T.size) 0 ec') ∧ ∃ S', Has (T.sl e) (setRow w g (k * T.size) 0 ec') [.slice A n c] (xs.set k y) S' ∧ ∀ b ∈ S', b ∈ S ∨ b ∈ Sy) := by
  obtain ⟨h, hS⟩ := h
  obtain ⟨A', c', ecs, S', h1, h2, h3, rfl⟩ := h
  injection h1 with h1 _
  injection h1 with hA hn hc
  subst hA hn hc
  have hk : k < xs.length := (List.getElem?_eq_some_iff.1 hx).1
  obtain ⟨a, ec, b, Sa, Sc, Sb, rfl, rfl, hl, ha, hO, hb⟩ := Rows.part h3 hx
  obtain ⟨hlen, hrest⟩ := h2
  rcases hrest with ⟨_, hn⟩ | ⟨g, cap, cur, hv, hbase, hg, hnc, hcm, hcs, htake⟩
  · omega
  · injection hv with hA _ hc
    subst hA hc
    have hgl : g < w.heap.size := (Array.getElem?_eq_some_iff.1 hg).1
    simp only [blockOf, List.singleton_append, List.nodup_cons, List.nodup_append, List.mem_append, not_or] at hS
    obtain ⟨⟨hga, hgc, hgb⟩, hna, ⟨hncd, hnb, hdcb⟩, hda⟩ := hS
    have hec : ec.length = T.size := T.lenO hO
    have hlc : (a ++ (ec ++ b)).length ≤ cur.size := by
      rw [← htake, List.length_take]
      have : cur.toList.length = cur.size := Array.length_toList
      omega
    have hcell : ∀ (j : Nat) (u : Value), (a ++ (ec ++ b))[j]? = some u → cur[j]? = some u := by
      intro j u hu
      rw [← htake, List.getElem?_take] at hu
      split at hu
      · simpa using hu
      · cases hu
    refine ⟨g, ec, Sc, rfl, by simp [blockOf], hgl, hgc, fun j hj => by simp [hj], ⟨hO, hncd⟩, fun j => by simp [World.frozen?, hg], fun j u hu => ?_, fun ec' y Sy hy hSy => ?_⟩
    · rw [cell_of_row w g _ cur e (0, 0) hg]
      apply hcell
      rw [List.getElem?_append_right (by omega), hl, Nat.add_sub_cancel_left, List.getElem?_append_left (List.getElem?_eq_some_iff.1 hu).1]
      exact hu
    · obtain ⟨hy, hnY⟩ := hy
      have hgY : g ∉ Sy := fun hm => by
        rcases hSy g hm with h | h
        · exact h (by simp [blockOf])
        · exact hgc h
      have hdY1 : ∀ b ∈ Sy, b ∉ Sa := fun i hi hm => by
        rcases hSy i hi with h | h
        · exact h (by simp [hm])
        · exact hda i hm i (.inl h) rfl
      have hdY2 : ∀ b ∈ Sy, b ∉ Sb := fun i hi hm => by
        rcases hSy i hi with h | h
        · exact h (by simp [hm])
        · exact hdcb i h i hm rfl
      have hec' : ec'.length = T.size := T.lenO hy
      have hother : ∀ i, i ≠ g → (setRow w g (k * T.size) 0 ec').heap[i]? = w.heap[i]? := fun i hi => setRow_other _ _ _ _ _ _ hi
      have hl2 : (a ++ (ec ++ b)).length = a.length + ec.length + b.length := by simp only [List.length_append]; omega
      refine ⟨setRow_only _ (by simp) _ _ _ _ (OnlyS.refl _ _), blockOf (some ⟨g, 0, none⟩) ++ (Sa ++ (Sy ++ Sb)), ⟨⟨some ⟨g, 0, none⟩, c, a ++ (ec' ++ b), _, by rw [List.length_set], ⟨?_, .inr ⟨g, c, setA cur (k * T.size) 0 ec', by rw [List.length_set], hbase, setRow_at _ _ _ _ _ _ _ hg, by simpa using hnc, hcm, by rw [setA_size]; exact hcs, ?_⟩⟩, Rows.join hx (Rows.keep ha ?_) (T.keepO hy ?_) (Rows.keep hb ?_), rfl⟩, ?_⟩, ?_⟩
      · rw [List.length_set, ← hlen]
        simp [hec, hec']
      · rw [List.length_set]
        rw [setA_toList, setL_eq _ _ _ _ (by rw [hec']; have : cur.toList.length = cur.size := Array.length_toList; omega)]
        have hM : xs.length * T.size = a.length + ec.length + b.length := by rw [← hlen, hl2]
        have e1 : cur.toList.take (k * T.size + 0) = a := by
          have h := congrArg (List.take (k * T.size)) htake
          rw [List.take_take, Nat.min_eq_left (by omega)] at h
          rw [Nat.add_zero, h, List.take_append_of_le_length (Nat.le_of_eq hl.symm), List.take_of_length_le (Nat.le_of_eq hl)]
        have e2 : (cur.toList.drop (k * T.size + 0 + ec'.length)).take (xs.length * T.size - (k * T.size + T.size)) = b := by
          have h := congrArg (List.drop (k * T.size + T.size)) htake
          have hae : (a ++ ec).length = k * T.size + T.size := by rw [List.length_append, hl, hec]
          rw [List.drop_take, ← List.append_assoc, List.drop_append_of_le_length (Nat.le_of_eq hae.symm), List.drop_of_length_le (Nat.le_of_eq hae), List.nil_append] at h
          rw [hec', Nat.add_zero]
          exact h
        have hae' : (a ++ ec').length = k * T.size + T.size := by rw [List.length_append, hl, hec']
        rw [e1, ← List.append_assoc, List.take_append, List.take_of_length_le (by rw [hae']; omega), hae', e2, List.append_assoc]
      · exact fun i hi => hother i (fun e => hga (e ▸ hi))
      · exact fun i hi => hother i (fun e => hgY (e ▸ hi))
      · exact fun i hi => hother i (fun e => hgb (e ▸ hi))
      · simp only [blockOf, List.singleton_append, List.nodup_cons, List.nodup_append, List.mem_append, not_or]
        refine ⟨⟨hga, hgY, hgb⟩, hna, ⟨hnY, hnb, fun i hi j hj he => hdY2 i hi (he ▸ hj)⟩, fun i hi j hj he => ?_⟩
        rcases hj with hj | hj
        · exact hdY1 j hj (he ▸ hi)
        · exact hda i hi j (.inr hj) he
      · intro i hi
        simp only [List.mem_append] at hi ⊢
        rcases hi with hi | hi | hi | hi
        · exact .inl (.inl hi)
        · exact .inl (.inr (.inl hi))
        · exact .inr hi
        · exact .inl (.inr (.inr (.inr hi)))
end Go.Proofs.Ytbhobjepjaeffaa
namespace Go.Proofs.Ytbhobjepjaeffaa
open Go.RowKit
theorem only_less {S L : List Nat} {a b : World} (h : OnlyS (S ++ L) a b) (hL : ∀ k ∈ L, a.heap.size ≤ k) : OnlyS S a b := by
  obtain ⟨h1, h2, h3, h4, h5⟩ := h
  refine ⟨h1, h2, h3, h4, fun k hk hn => h5 k hk (fun hm => ?_)⟩
  rcases List.mem_append.1 hm with hm | hm
  · exact hn hm
  · have := hL k hm; omega
theorem only_step {Y1 Y Y2 W : World} {g3 : Nat} {S : List Nat} (ho : OnlyS [g3] Y1 Y) (hg : Gro Y Y2) (hon : OnlyS S Y2 W) (hS : ∀ b ∈ S, Y1.heap.size ≤ b) (j : Nat) (v : Value) : OnlyS [g3] Y1 (W.setCell ⟨g3, j, none⟩ v) :=
  (only_less (((ho.trans (hg.only [g3])).mono (S' := [g3] ++ S) (fun k hk => List.mem_append_left _ hk)).trans (hon.mono (fun k hk => List.mem_append_right _ hk))) hS).setCell (p := ⟨g3, j, none⟩) (by simp) v
theorem gcell {a b : World} (h : Gro a b) {p : Addr} {v : Value} (hp : a.cell? p = some v) : b.cell? p = some v := by
  obtain ⟨os, d, rfl⟩ := h
  exact gro_keeps hp os d
set_option maxRecDepth 100000 in
set_option maxHeartbeats 4000000 in
theorem copyImage_s {x : DImage} {w : World} {A : Option Addr} {c : Nat} (p0 : x.Code.size ≤ 9223372036854775807) (h1 : (tSymbol.sl 118).R w w.heap.size [.slice A x.Symbols.length c] x.Symbols) (hl : x.Symbols.length ≤ 1099511627776) :
    Calls Try.prog 89 #[.agg #[.string x.Code, .slice A x.Symbols.length c]] w (RetImage x w) := by
  go_enter Try.func89, Try.ntmps89
  go_wp2_with (fail)
  have hG0 : Gro w ((w.alloc (.cells #[.string x.Code, .slice A x.Symbols.length c] 96)).alloc (.cells #[.string ⟨#[]⟩, .slice none 0 0] 96)) := (by repeat (first | with_reducible exact Gro.refl _ | with_reducible exact Gro.refl_drew _ _ _ | with_reducible exact Gro.refl_drewN _ _ _ _ | assumption | with_reducible apply Gro.more | with_reducible apply Gro.alloc | with_reducible apply Gro.drew | with_reducible apply Gro.drewN))
  have eb : ((w.alloc (.cells #[.string x.Code, .slice A x.Symbols.length c] 96)).alloc (.cells #[.string ⟨#[]⟩, .slice none 0 0] 96)).heap[w.heap.size]? = some (.cells #[.string x.Code, .slice A x.Symbols.length c] 96 (0, 0)) := grow_blk (heap_alloc_new w _) (by (repeat (first | with_reducible exact Gro.refl _ | with_reducible exact Gro.refl_drew _ _ _ | with_reducible exact Gro.refl_drewN _ _ _ _ | assumption | with_reducible apply Gro.more | with_reducible apply Gro.alloc | with_reducible apply Gro.drew | with_reducible apply Gro.drewN)); done)
  have er : ((w.alloc (.cells #[.string x.Code, .slice A x.Symbols.length c] 96)).alloc (.cells #[.string ⟨#[]⟩, .slice none 0 0] 96)).heap[w.heap.size + 1]? = some (.cells #[.string ⟨#[]⟩, .slice none 0 0] 96 (0, 0)) := by have h := heap_alloc_new (w.alloc (.cells #[.string x.Code, .slice A x.Symbols.length c] 96)) (.cells #[.string ⟨#[]⟩, .slice none 0 0] 96); rw [World.size_alloc] at h; exact h
  have hd := Ty.up _ h1 hG0
  obtain ⟨g, hg⟩ : ∃ g, w.heap.size = g := ⟨_, rfl⟩
  rw [hg] at eb er ⊢
  generalize ((w.alloc (.cells #[.string x.Code, .slice A x.Symbols.length c] 96)).alloc (.cells #[.string ⟨#[]⟩, .slice none 0 0] 96)) = Y at hG0 eb er hd ⊢
  obtain ⟨y0, y1, _, _, yl⟩ := box2 eb
  obtain ⟨z0, z1, zf0, zf1, zl⟩ := box2 er
  have hgg : g ≠ g + 1 := by omega
  have hgb : g ≠ Y.heap.size := by omega
  have hgb1 : g + 1 ≠ Y.heap.size := by omega
  clear h1
  go_region_held3 (fun w' => w'.cell? ⟨g, 0, none⟩ = some (.string x.Code) ∧ w'.cell? ⟨g, 1, none⟩ = some (.slice A x.Symbols.length c)) ((repeat' apply And.intro) <;> ((repeat (first | with_reducible assumption | with_reducible refine gro_keeps ?_ _ _ | with_reducible refine alloc_keeps ?_ _ | with_reducible refine drew_keeps ?_ | with_reducible refine keep_set ?_ ?_)); done)) (first
    | (refine step_append_hasl (L := x.Symbols.length) rfl (.tmp 5) (.tmp 7) elSymbol flatSymbol (S := [Y.heap.size]) (Has.emp tSymbol (heap_alloc_new _ _)) (Ty.up _ hd (by repeat (first | with_reducible exact Gro.refl _ | with_reducible exact Gro.refl_drew _ _ _ | with_reducible exact Gro.refl_drewN _ _ _ _ | assumption | with_reducible apply Gro.more | with_reducible apply Gro.alloc | with_reducible apply Gro.drew | with_reducible apply Gro.drewN))) rfl rfl rfl (Nat.zero_add _).symm (by omega) (by omega) ?_; intro A7 c7 W7 S7 hon hH7 hS7; have e7 := frz_thru er (by (repeat (first | with_reducible exact Gro.refl _ | with_reducible exact Gro.refl_drew _ _ _ | with_reducible exact Gro.refl_drewN _ _ _ _ | assumption | with_reducible apply Gro.more | with_reducible apply Gro.alloc | with_reducible apply Gro.drew | with_reducible apply Gro.drewN)); done) hon (by simpa using hgb1); have q0 := keep_thru y0 (by (repeat (first | with_reducible exact Gro.refl _ | with_reducible exact Gro.refl_drew _ _ _ | with_reducible exact Gro.refl_drewN _ _ _ _ | assumption | with_reducible apply Gro.more | with_reducible apply Gro.alloc | with_reducible apply Gro.drew | with_reducible apply Gro.drewN)); done) hon (by simpa using hgb); have q1 := keep_thru y1 (by (repeat (first | with_reducible exact Gro.refl _ | with_reducible exact Gro.refl_drew _ _ _ | with_reducible exact Gro.refl_drewN _ _ _ _ | assumption | with_reducible apply Gro.more | with_reducible apply Gro.alloc | with_reducible apply Gro.drew | with_reducible apply Gro.drewN)); done) hon (by simpa using hgb); obtain ⟨a0, a1, a2, a3, _⟩ := box2 e7; have e7l := (Array.getElem?_eq_some_iff.1 e7).1))
  go_wp2_with (fail)
  have h2 := set2 e7 (.string x.Code) (.slice A7 x.Symbols.length c7)
  obtain ⟨r0, r1, _, _, _⟩ := box2 h2.1
  have hYs := hG0.size
  have hGY : Gro Y W7 := hon.gro (W0 := Y) (by (repeat (first | with_reducible exact Gro.refl _ | with_reducible exact Gro.refl_drew _ _ _ | with_reducible exact Gro.refl_drewN _ _ _ _ | assumption | with_reducible apply Gro.more | with_reducible apply Gro.alloc | with_reducible apply Gro.drew | with_reducible apply Gro.drewN)); done) (fun b hb => by simp at hb; omega)
  have hlo : ∀ b ∈ S7, Y.heap.size ≤ b := fun b hb => by
    rcases hS7 b hb with h | h
    · simp at h; omega
    · simp at h; omega
  have hH8 := hH7.keep h2.2 (fun b hb hm => by have := hlo b hb; simp at hm; omega)
  rw [List.nil_append] at hH8
  exact bodyPost_ret (v := .agg #[.string x.Code, .slice A7 x.Symbols.length c7]) (by simp [results, Try.results89, go_sem, r0, r1]) rfl ⟨A7, c7, rfl, tImage_fresh p0 (Has.fresh (w := w) hH8 (fun b hb => by have := hlo b hb; omega)).fre (Nat.le_refl _), h2.2.gro (hG0.trans hGY) (fun b hb => by simp at hb; omega)⟩
set_option maxRecDepth 100000 in
set_option maxHeartbeats 8000000 in
theorem copySpace_s {s : DSpace} {w : World} {A0 A1 A2 : Option Addr} {c0 c1 c2 : Nat} (h0 : (tImage.sl 96).R w w.heap.size [.slice A0 s.Images.length c0] s.Images) (h1 : (intT.sl 3).R w w.heap.size [.slice A1 s.Bases.length c1] s.Bases)
    (h2 : (intT.sl 3).R w w.heap.size [.slice A2 s.Entries.length c2] s.Entries) (hs : szSpace s ≤ 1099511627776) :
    Calls Try.prog 53 #[.agg #[.slice A0 s.Images.length c0, .slice A1 s.Bases.length c1, .slice A2 s.Entries.length c2]] w (RetSpace s w) := by
  have hl1 : s.Bases.length ≤ 1099511627776 := by unfold szSpace at hs; omega
  have hl2 : s.Entries.length ≤ 1099511627776 := by unfold szSpace at hs; omega
  go_enter Try.func53, Try.ntmps53
  go_upto_region 1 with (fail)
  have hG0 : Gro w ((w.alloc (.cells #[.slice A0 s.Images.length c0, .slice A1 s.Bases.length c1, .slice A2 s.Entries.length c2] 33)).alloc (.cells #[.slice none 0 0, .slice none 0 0, .slice none 0 0] 33)) := (by repeat (first | with_reducible exact Gro.refl _ | with_reducible exact Gro.refl_drew _ _ _ | with_reducible exact Gro.refl_drewN _ _ _ _ | assumption | with_reducible apply Gro.more | with_reducible apply Gro.alloc | with_reducible apply Gro.drew | with_reducible apply Gro.drewN))
  have eb : ((w.alloc (.cells #[.slice A0 s.Images.length c0, .slice A1 s.Bases.length c1, .slice A2 s.Entries.length c2] 33)).alloc (.cells #[.slice none 0 0, .slice none 0 0, .slice none 0 0] 33)).heap[w.heap.size]? = some (.cells #[.slice A0 s.Images.length c0, .slice A1 s.Bases.length c1, .slice A2 s.Entries.length c2] 33 (0, 0)) := grow_blk (heap_alloc_new w _) (by (repeat (first | with_reducible exact Gro.refl _ | with_reducible exact Gro.refl_drew _ _ _ | with_reducible exact Gro.refl_drewN _ _ _ _ | assumption | with_reducible apply Gro.more | with_reducible apply Gro.alloc | with_reducible apply Gro.drew | with_reducible apply Gro.drewN)); done)
  have er : ((w.alloc (.cells #[.slice A0 s.Images.length c0, .slice A1 s.Bases.length c1, .slice A2 s.Entries.length c2] 33)).alloc (.cells #[.slice none 0 0, .slice none 0 0, .slice none 0 0] 33)).heap[w.heap.size + 1]? = some (.cells #[.slice none 0 0, .slice none 0 0, .slice none 0 0] 33 (0, 0)) := by have h := heap_alloc_new (w.alloc (.cells #[.slice A0 s.Images.length c0, .slice A1 s.Bases.length c1, .slice A2 s.Entries.length c2] 33)) (.cells #[.slice none 0 0, .slice none 0 0, .slice none 0 0] 33); rw [World.size_alloc] at h; exact h
  have hd0 := Ty.up _ h0 hG0
  have hd1 := Ty.up _ h1 hG0
  have hd2 := Ty.up _ h2 hG0
  obtain ⟨g, hg⟩ : ∃ g, w.heap.size = g := ⟨_, rfl⟩
  rw [hg] at eb er ⊢
  generalize ((w.alloc (.cells #[.slice A0 s.Images.length c0, .slice A1 s.Bases.length c1, .slice A2 s.Entries.length c2] 33)).alloc (.cells #[.slice none 0 0, .slice none 0 0, .slice none 0 0] 33)) = Y at hG0 eb er hd0 hd1 hd2 ⊢
  obtain ⟨y0, y1, y2, _, yl⟩ := row3 eb
  have zl := (row3 er).2.2.2.2
  clear h0 h1 h2
  go_cut [3] from 3 to 13 (fun v3 wx => ∃ (g3 : Nat) (B1 B2 : Option Addr) (d1 d2 : Nat) (S1 S2 : List Nat), v3 = .pointer (some ⟨g3, 0, none⟩) ∧ J3 intT intT 3 3 Y wx (.slice B1 s.Bases.length d1) (.slice B2 s.Entries.length d2) s.Bases s.Entries S1 S2 g3 (.cells #[.slice none 0 0, .slice B1 s.Bases.length d1, .slice B2 s.Entries.length d2] 33 (0, 0)) ∧ Y.heap.size ≤ g3)
  case first =>
    refine region_T (fun w' => w'.cell? ⟨g, 1, none⟩ = some (.slice A1 s.Bases.length c1) ∧ w'.cell? ⟨g, 2, none⟩ = some (.slice A2 s.Entries.length c2)) 10 (by kernel_rfl) ⟨drew_keeps y1, drew_keeps y2⟩ (fun hH => ?_)
    have HJ := J3.start (T := intT) (U := intT) (e := 3) (f := 3) er
    have HJ := HJ.gro ((Gro.refl _).drew)
    generalize hYd : Y.drew = Wx at HJ hH ⊢
    clear hYd
    refine AnyT.take (i := 1) (cs := [10]) rfl (by kernel_rfl) (by kernel_rfl) (by kernel_rfl) (by kernel_rfl) rfl (by kernel_rfl) (fun _ _ _ h => h) hH (by rfl) (by intro w hSw; (try dsimp only at hSw); go_simp; (try with_reducible rfl)) ?_
    try simp only [Act.put, List.setIfInBounds_toArray, List.set_cons_zero, List.set_cons_succ]
    refine AnyT.take (i := 2) (cs := [10]) rfl (by kernel_rfl) (by kernel_rfl) (by kernel_rfl) (by kernel_rfl) rfl (by kernel_rfl) (fun _ _ _ h => h) hH (by rfl) (by intro w hSw; (try dsimp only at hSw); go_simp; (try with_reducible rfl)) ?_
    try simp only [Act.put, List.setIfInBounds_toArray, List.set_cons_zero, List.set_cons_succ]
    refine AnyT.take (i := 5) (cs := [10]) rfl (by kernel_rfl) (by kernel_rfl) (by kernel_rfl) (by kernel_rfl) rfl (by kernel_rfl) (fun _ _ _ h => h) hH (by rfl) (by intro w hSw; (try dsimp only at hSw); go_simp; (try with_reducible rfl)) ?_
    try simp only [Act.put, List.setIfInBounds_toArray, List.set_cons_zero, List.set_cons_succ]
    refine AnyT.take (i := 6) (cs := [10]) rfl (by kernel_rfl) (by kernel_rfl) (by kernel_rfl) (by kernel_rfl) rfl (by kernel_rfl) (fun _ _ _ h => h) hH (by rfl) (by intro w hSw; (try dsimp only at hSw); go_simp; (try with_reducible rfl)) ?_
    try simp only [Act.put, List.setIfInBounds_toArray, List.set_cons_zero, List.set_cons_succ]
    refine AnyT.some3 (i := 0) (j := 4) (l := 9) (by kernel_rfl) rfl rfl rfl (fun K hK => ?_) (fun K hK => ?_) (fun K hK => ?_) 
    · go_simp
      have HJ := HJ.allocA
      refine hK.out _ _ ⟨HJ.cell y1, HJ.cell y2⟩ ?_
      clear hK
      generalize World.alloc _ (.cells #[] 3) = Wx at HJ ⊢
      try simp only [Act.put, List.setIfInBounds_toArray, List.set_cons_zero, List.set_cons_succ]
      refine AnyT.some3 (i := 3) (j := 4) (l := 9) (by kernel_rfl) rfl rfl rfl (fun K hK => ?_) (fun K hK => ?_) (fun K hK => ?_) 
      · refine step_append_hasl (L := s.Bases.length) rfl (.tmp 5) (.tmp 7) elInt flat_int HJ.ha (Ty.up _ hd1 HJ.hg) rfl rfl rfl (Nat.zero_add _).symm (by omega) (by omega) ?_
        intro B1 d1 W1 S1 hon hH hS
        rw [List.nil_append] at hH
        have HJ := HJ.appA hon hH hS
        refine hK.out _ _ ⟨HJ.cell y1, HJ.cell y2⟩ ?_
        clear hK
        try simp only [Act.put, List.setIfInBounds_toArray, List.set_cons_zero, List.set_cons_succ]
        refine AnyT.some2 (i := 4) (j := 9) (by kernel_rfl) rfl rfl (fun K hK => ?_) (fun K hK => ?_) 
        · go_simp
          have HJ := HJ.allocB
          refine hK.out _ _ ⟨HJ.cell y1, HJ.cell y2⟩ ?_
          clear hK
          generalize World.alloc _ (.cells #[] 3) = Wx at HJ ⊢
          try simp only [Act.put, List.setIfInBounds_toArray, List.set_cons_zero, List.set_cons_succ]
          refine AnyT.some2 (i := 7) (j := 9) (by kernel_rfl) rfl rfl (fun K hK => ?_) (fun K hK => ?_) 
          · refine step_append_hasl (L := s.Entries.length) rfl (.tmp 9) (.tmp 11) elInt flat_int HJ.hb (Ty.up _ hd2 HJ.hg) rfl rfl rfl (Nat.zero_add _).symm (by omega) (by omega) ?_
            intro B2 d2 W2 S2 hon hH hS
            rw [List.nil_append] at hH
            have HJ := HJ.appB hon hH hS
            refine hK.out _ _ ⟨HJ.cell y1, HJ.cell y2⟩ ?_
            clear hK
            try simp only [Act.put, List.setIfInBounds_toArray, List.set_cons_zero, List.set_cons_succ]
            refine AnyT.take (i := 8) (cs := [10]) rfl (by kernel_rfl) (by kernel_rfl) (by kernel_rfl) (by kernel_rfl) rfl (by kernel_rfl) (fun _ _ _ h => h) ⟨HJ.cell y1, HJ.cell y2⟩ (by rfl) (by intro w hSw; (try dsimp only at hSw); go_simp; (try with_reducible rfl)) ?_
            try simp only [Act.put, List.setIfInBounds_toArray, List.set_cons_zero, List.set_cons_succ]
            refine AnyT.some1 (i := 9) (by kernel_rfl) rfl (fun K hK => ?_) 
            · go_simp
              have hgo := HJ.hg.size
              have HJ := HJ.allocO (cs := #[.slice none 0 0, .slice none 0 0, .slice none 0 0]) (t := 33)
              refine hK.out _ _ ⟨HJ.cell y1, HJ.cell y2⟩ ?_
              clear hK
              generalize World.alloc _ (.cells #[.slice none 0 0, .slice none 0 0, .slice none 0 0] 33) = Wx at HJ ⊢
              try simp only [Act.put, List.setIfInBounds_toArray, List.set_cons_zero, List.set_cons_succ]
              obtain ⟨o0, o1, o2, of, ol⟩ := row3 HJ.ho
              refine AnyT.last (by kernel_rfl) rfl (by kernel_rfl) (fun K hK => ?_)
              go_simp
              refine hK.out _ _ ?_
              clear hK
              try simp only [Act.put, List.setIfInBounds_toArray, List.set_cons_zero, List.set_cons_succ]
              have h2 := set3 HJ.ho (.slice none 0 0) (.slice B1 s.Bases.length d1) (.slice B2 s.Entries.length d2)
              have HJ := HJ.store h2.2 h2.1 hgo
              go_wp2_with (fail)
              go_meet
              exact ⟨_, B1, B2, d1, d2, S1, S2, rfl, HJ, hgo⟩
          · go_simp
            have hgo := HJ.hg.size
            have HJ := HJ.allocO (cs := #[.slice none 0 0, .slice none 0 0, .slice none 0 0]) (t := 33)
            refine hK.out _ _ ⟨HJ.cell y1, HJ.cell y2⟩ ?_
            clear hK
            generalize World.alloc _ (.cells #[.slice none 0 0, .slice none 0 0, .slice none 0 0] 33) = Wx at HJ ⊢
            try simp only [Act.put, List.setIfInBounds_toArray, List.set_cons_zero, List.set_cons_succ]
            refine AnyT.some1 (i := 7) (by kernel_rfl) rfl (fun K hK => ?_) 
            · refine step_append_hasl (L := s.Entries.length) rfl (.tmp 9) (.tmp 11) elInt flat_int HJ.hb (Ty.up _ hd2 HJ.hg) rfl rfl rfl (Nat.zero_add _).symm (by omega) (by omega) ?_
              intro B2 d2 W2 S2 hon hH hS
              rw [List.nil_append] at hH
              have HJ := HJ.appB hon hH hS
              refine hK.out _ _ ⟨HJ.cell y1, HJ.cell y2⟩ ?_
              clear hK
              try simp only [Act.put, List.setIfInBounds_toArray, List.set_cons_zero, List.set_cons_succ]
              refine AnyT.take (i := 8) (cs := [10]) rfl (by kernel_rfl) (by kernel_rfl) (by kernel_rfl) (by kernel_rfl) rfl (by kernel_rfl) (fun _ _ _ h => h) ⟨HJ.cell y1, HJ.cell y2⟩ (by rfl) (by intro w hSw; (try dsimp only at hSw); go_simp; (try with_reducible rfl)) ?_
              try simp only [Act.put, List.setIfInBounds_toArray, List.set_cons_zero, List.set_cons_succ]
              obtain ⟨o0, o1, o2, of, ol⟩ := row3 HJ.ho
              refine AnyT.last (by kernel_rfl) rfl (by kernel_rfl) (fun K hK => ?_)
              go_simp
              refine hK.out _ _ ?_
              clear hK
              try simp only [Act.put, List.setIfInBounds_toArray, List.set_cons_zero, List.set_cons_succ]
              have h2 := set3 HJ.ho (.slice none 0 0) (.slice B1 s.Bases.length d1) (.slice B2 s.Entries.length d2)
              have HJ := HJ.store h2.2 h2.1 hgo
              go_wp2_with (fail)
              go_meet
              exact ⟨_, B1, B2, d1, d2, S1, S2, rfl, HJ, hgo⟩
        · go_simp
          have hgo := HJ.hg.size
          have HJ := HJ.allocO (cs := #[.slice none 0 0, .slice none 0 0, .slice none 0 0]) (t := 33)
          refine hK.out _ _ ⟨HJ.cell y1, HJ.cell y2⟩ ?_
          clear hK
          generalize World.alloc _ (.cells #[.slice none 0 0, .slice none 0 0, .slice none 0 0] 33) = Wx at HJ ⊢
          try simp only [Act.put, List.setIfInBounds_toArray, List.set_cons_zero, List.set_cons_succ]
          refine AnyT.some1 (i := 4) (by kernel_rfl) rfl (fun K hK => ?_) 
          · go_simp
            have HJ := HJ.allocB
            refine hK.out _ _ ⟨HJ.cell y1, HJ.cell y2⟩ ?_
            clear hK
            generalize World.alloc _ (.cells #[] 3) = Wx at HJ ⊢
            try simp only [Act.put, List.setIfInBounds_toArray, List.set_cons_zero, List.set_cons_succ]
            refine AnyT.some1 (i := 7) (by kernel_rfl) rfl (fun K hK => ?_) 
            · refine step_append_hasl (L := s.Entries.length) rfl (.tmp 9) (.tmp 11) elInt flat_int HJ.hb (Ty.up _ hd2 HJ.hg) rfl rfl rfl (Nat.zero_add _).symm (by omega) (by omega) ?_
              intro B2 d2 W2 S2 hon hH hS
              rw [List.nil_append] at hH
              have HJ := HJ.appB hon hH hS
              refine hK.out _ _ ⟨HJ.cell y1, HJ.cell y2⟩ ?_
              clear hK
              try simp only [Act.put, List.setIfInBounds_toArray, List.set_cons_zero, List.set_cons_succ]
              refine AnyT.take (i := 8) (cs := [10]) rfl (by kernel_rfl) (by kernel_rfl) (by kernel_rfl) (by kernel_rfl) rfl (by kernel_rfl) (fun _ _ _ h => h) ⟨HJ.cell y1, HJ.cell y2⟩ (by rfl) (by intro w hSw; (try dsimp only at hSw); go_simp; (try with_reducible rfl)) ?_
              try simp only [Act.put, List.setIfInBounds_toArray, List.set_cons_zero, List.set_cons_succ]
              obtain ⟨o0, o1, o2, of, ol⟩ := row3 HJ.ho
              refine AnyT.last (by kernel_rfl) rfl (by kernel_rfl) (fun K hK => ?_)
              go_simp
              refine hK.out _ _ ?_
              clear hK
              try simp only [Act.put, List.setIfInBounds_toArray, List.set_cons_zero, List.set_cons_succ]
              have h2 := set3 HJ.ho (.slice none 0 0) (.slice B1 s.Bases.length d1) (.slice B2 s.Entries.length d2)
              have HJ := HJ.store h2.2 h2.1 hgo
              go_wp2_with (fail)
              go_meet
              exact ⟨_, B1, B2, d1, d2, S1, S2, rfl, HJ, hgo⟩
      · go_simp
        have HJ := HJ.allocB
        refine hK.out _ _ ⟨HJ.cell y1, HJ.cell y2⟩ ?_
        clear hK
        generalize World.alloc _ (.cells #[] 3) = Wx at HJ ⊢
        try simp only [Act.put, List.setIfInBounds_toArray, List.set_cons_zero, List.set_cons_succ]
        refine AnyT.some2 (i := 3) (j := 9) (by kernel_rfl) rfl rfl (fun K hK => ?_) (fun K hK => ?_) 
        · refine step_append_hasl (L := s.Bases.length) rfl (.tmp 5) (.tmp 7) elInt flat_int HJ.ha (Ty.up _ hd1 HJ.hg) rfl rfl rfl (Nat.zero_add _).symm (by omega) (by omega) ?_
          intro B1 d1 W1 S1 hon hH hS
          rw [List.nil_append] at hH
          have HJ := HJ.appA hon hH hS
          refine hK.out _ _ ⟨HJ.cell y1, HJ.cell y2⟩ ?_
          clear hK
          try simp only [Act.put, List.setIfInBounds_toArray, List.set_cons_zero, List.set_cons_succ]
          refine AnyT.some2 (i := 7) (j := 9) (by kernel_rfl) rfl rfl (fun K hK => ?_) (fun K hK => ?_) 
          · refine step_append_hasl (L := s.Entries.length) rfl (.tmp 9) (.tmp 11) elInt flat_int HJ.hb (Ty.up _ hd2 HJ.hg) rfl rfl rfl (Nat.zero_add _).symm (by omega) (by omega) ?_
            intro B2 d2 W2 S2 hon hH hS
            rw [List.nil_append] at hH
            have HJ := HJ.appB hon hH hS
            refine hK.out _ _ ⟨HJ.cell y1, HJ.cell y2⟩ ?_
            clear hK
            try simp only [Act.put, List.setIfInBounds_toArray, List.set_cons_zero, List.set_cons_succ]
            refine AnyT.take (i := 8) (cs := [10]) rfl (by kernel_rfl) (by kernel_rfl) (by kernel_rfl) (by kernel_rfl) rfl (by kernel_rfl) (fun _ _ _ h => h) ⟨HJ.cell y1, HJ.cell y2⟩ (by rfl) (by intro w hSw; (try dsimp only at hSw); go_simp; (try with_reducible rfl)) ?_
            try simp only [Act.put, List.setIfInBounds_toArray, List.set_cons_zero, List.set_cons_succ]
            refine AnyT.some1 (i := 9) (by kernel_rfl) rfl (fun K hK => ?_) 
            · go_simp
              have hgo := HJ.hg.size
              have HJ := HJ.allocO (cs := #[.slice none 0 0, .slice none 0 0, .slice none 0 0]) (t := 33)
              refine hK.out _ _ ⟨HJ.cell y1, HJ.cell y2⟩ ?_
              clear hK
              generalize World.alloc _ (.cells #[.slice none 0 0, .slice none 0 0, .slice none 0 0] 33) = Wx at HJ ⊢
              try simp only [Act.put, List.setIfInBounds_toArray, List.set_cons_zero, List.set_cons_succ]
              obtain ⟨o0, o1, o2, of, ol⟩ := row3 HJ.ho
              refine AnyT.last (by kernel_rfl) rfl (by kernel_rfl) (fun K hK => ?_)
              go_simp
              refine hK.out _ _ ?_
              clear hK
              try simp only [Act.put, List.setIfInBounds_toArray, List.set_cons_zero, List.set_cons_succ]
              have h2 := set3 HJ.ho (.slice none 0 0) (.slice B1 s.Bases.length d1) (.slice B2 s.Entries.length d2)
              have HJ := HJ.store h2.2 h2.1 hgo
              go_wp2_with (fail)
              go_meet
              exact ⟨_, B1, B2, d1, d2, S1, S2, rfl, HJ, hgo⟩
          · go_simp
            have hgo := HJ.hg.size
            have HJ := HJ.allocO (cs := #[.slice none 0 0, .slice none 0 0, .slice none 0 0]) (t := 33)
            refine hK.out _ _ ⟨HJ.cell y1, HJ.cell y2⟩ ?_
            clear hK
            generalize World.alloc _ (.cells #[.slice none 0 0, .slice none 0 0, .slice none 0 0] 33) = Wx at HJ ⊢
            try simp only [Act.put, List.setIfInBounds_toArray, List.set_cons_zero, List.set_cons_succ]
            refine AnyT.some1 (i := 7) (by kernel_rfl) rfl (fun K hK => ?_) 
            · refine step_append_hasl (L := s.Entries.length) rfl (.tmp 9) (.tmp 11) elInt flat_int HJ.hb (Ty.up _ hd2 HJ.hg) rfl rfl rfl (Nat.zero_add _).symm (by omega) (by omega) ?_
              intro B2 d2 W2 S2 hon hH hS
              rw [List.nil_append] at hH
              have HJ := HJ.appB hon hH hS
              refine hK.out _ _ ⟨HJ.cell y1, HJ.cell y2⟩ ?_
              clear hK
              try simp only [Act.put, List.setIfInBounds_toArray, List.set_cons_zero, List.set_cons_succ]
              refine AnyT.take (i := 8) (cs := [10]) rfl (by kernel_rfl) (by kernel_rfl) (by kernel_rfl) (by kernel_rfl) rfl (by kernel_rfl) (fun _ _ _ h => h) ⟨HJ.cell y1, HJ.cell y2⟩ (by rfl) (by intro w hSw; (try dsimp only at hSw); go_simp; (try with_reducible rfl)) ?_
              try simp only [Act.put, List.setIfInBounds_toArray, List.set_cons_zero, List.set_cons_succ]
              obtain ⟨o0, o1, o2, of, ol⟩ := row3 HJ.ho
              refine AnyT.last (by kernel_rfl) rfl (by kernel_rfl) (fun K hK => ?_)
              go_simp
              refine hK.out _ _ ?_
              clear hK
              try simp only [Act.put, List.setIfInBounds_toArray, List.set_cons_zero, List.set_cons_succ]
              have h2 := set3 HJ.ho (.slice none 0 0) (.slice B1 s.Bases.length d1) (.slice B2 s.Entries.length d2)
              have HJ := HJ.store h2.2 h2.1 hgo
              go_wp2_with (fail)
              go_meet
              exact ⟨_, B1, B2, d1, d2, S1, S2, rfl, HJ, hgo⟩
        · go_simp
          have hgo := HJ.hg.size
          have HJ := HJ.allocO (cs := #[.slice none 0 0, .slice none 0 0, .slice none 0 0]) (t := 33)
          refine hK.out _ _ ⟨HJ.cell y1, HJ.cell y2⟩ ?_
          clear hK
          generalize World.alloc _ (.cells #[.slice none 0 0, .slice none 0 0, .slice none 0 0] 33) = Wx at HJ ⊢
          try simp only [Act.put, List.setIfInBounds_toArray, List.set_cons_zero, List.set_cons_succ]
          refine AnyT.some1 (i := 3) (by kernel_rfl) rfl (fun K hK => ?_) 
          · refine step_append_hasl (L := s.Bases.length) rfl (.tmp 5) (.tmp 7) elInt flat_int HJ.ha (Ty.up _ hd1 HJ.hg) rfl rfl rfl (Nat.zero_add _).symm (by omega) (by omega) ?_
            intro B1 d1 W1 S1 hon hH hS
            rw [List.nil_append] at hH
            have HJ := HJ.appA hon hH hS
            refine hK.out _ _ ⟨HJ.cell y1, HJ.cell y2⟩ ?_
            clear hK
            try simp only [Act.put, List.setIfInBounds_toArray, List.set_cons_zero, List.set_cons_succ]
            refine AnyT.some1 (i := 7) (by kernel_rfl) rfl (fun K hK => ?_) 
            · refine step_append_hasl (L := s.Entries.length) rfl (.tmp 9) (.tmp 11) elInt flat_int HJ.hb (Ty.up _ hd2 HJ.hg) rfl rfl rfl (Nat.zero_add _).symm (by omega) (by omega) ?_
              intro B2 d2 W2 S2 hon hH hS
              rw [List.nil_append] at hH
              have HJ := HJ.appB hon hH hS
              refine hK.out _ _ ⟨HJ.cell y1, HJ.cell y2⟩ ?_
              clear hK
              try simp only [Act.put, List.setIfInBounds_toArray, List.set_cons_zero, List.set_cons_succ]
              refine AnyT.take (i := 8) (cs := [10]) rfl (by kernel_rfl) (by kernel_rfl) (by kernel_rfl) (by kernel_rfl) rfl (by kernel_rfl) (fun _ _ _ h => h) ⟨HJ.cell y1, HJ.cell y2⟩ (by rfl) (by intro w hSw; (try dsimp only at hSw); go_simp; (try with_reducible rfl)) ?_
              try simp only [Act.put, List.setIfInBounds_toArray, List.set_cons_zero, List.set_cons_succ]
              obtain ⟨o0, o1, o2, of, ol⟩ := row3 HJ.ho
              refine AnyT.last (by kernel_rfl) rfl (by kernel_rfl) (fun K hK => ?_)
              go_simp
              refine hK.out _ _ ?_
              clear hK
              try simp only [Act.put, List.setIfInBounds_toArray, List.set_cons_zero, List.set_cons_succ]
              have h2 := set3 HJ.ho (.slice none 0 0) (.slice B1 s.Bases.length d1) (.slice B2 s.Entries.length d2)
              have HJ := HJ.store h2.2 h2.1 hgo
              go_wp2_with (fail)
              go_meet
              exact ⟨_, B1, B2, d1, d2, S1, S2, rfl, HJ, hgo⟩
      · go_simp
        have hgo := HJ.hg.size
        have HJ := HJ.allocO (cs := #[.slice none 0 0, .slice none 0 0, .slice none 0 0]) (t := 33)
        refine hK.out _ _ ⟨HJ.cell y1, HJ.cell y2⟩ ?_
        clear hK
        generalize World.alloc _ (.cells #[.slice none 0 0, .slice none 0 0, .slice none 0 0] 33) = Wx at HJ ⊢
        try simp only [Act.put, List.setIfInBounds_toArray, List.set_cons_zero, List.set_cons_succ]
        refine AnyT.some2 (i := 3) (j := 4) (by kernel_rfl) rfl rfl (fun K hK => ?_) (fun K hK => ?_) 
        · refine step_append_hasl (L := s.Bases.length) rfl (.tmp 5) (.tmp 7) elInt flat_int HJ.ha (Ty.up _ hd1 HJ.hg) rfl rfl rfl (Nat.zero_add _).symm (by omega) (by omega) ?_
          intro B1 d1 W1 S1 hon hH hS
          rw [List.nil_append] at hH
          have HJ := HJ.appA hon hH hS
          refine hK.out _ _ ⟨HJ.cell y1, HJ.cell y2⟩ ?_
          clear hK
          try simp only [Act.put, List.setIfInBounds_toArray, List.set_cons_zero, List.set_cons_succ]
          refine AnyT.some1 (i := 4) (by kernel_rfl) rfl (fun K hK => ?_) 
          · go_simp
            have HJ := HJ.allocB
            refine hK.out _ _ ⟨HJ.cell y1, HJ.cell y2⟩ ?_
            clear hK
            generalize World.alloc _ (.cells #[] 3) = Wx at HJ ⊢
            try simp only [Act.put, List.setIfInBounds_toArray, List.set_cons_zero, List.set_cons_succ]
            refine AnyT.some1 (i := 7) (by kernel_rfl) rfl (fun K hK => ?_) 
            · refine step_append_hasl (L := s.Entries.length) rfl (.tmp 9) (.tmp 11) elInt flat_int HJ.hb (Ty.up _ hd2 HJ.hg) rfl rfl rfl (Nat.zero_add _).symm (by omega) (by omega) ?_
              intro B2 d2 W2 S2 hon hH hS
              rw [List.nil_append] at hH
              have HJ := HJ.appB hon hH hS
              refine hK.out _ _ ⟨HJ.cell y1, HJ.cell y2⟩ ?_
              clear hK
              try simp only [Act.put, List.setIfInBounds_toArray, List.set_cons_zero, List.set_cons_succ]
              refine AnyT.take (i := 8) (cs := [10]) rfl (by kernel_rfl) (by kernel_rfl) (by kernel_rfl) (by kernel_rfl) rfl (by kernel_rfl) (fun _ _ _ h => h) ⟨HJ.cell y1, HJ.cell y2⟩ (by rfl) (by intro w hSw; (try dsimp only at hSw); go_simp; (try with_reducible rfl)) ?_
              try simp only [Act.put, List.setIfInBounds_toArray, List.set_cons_zero, List.set_cons_succ]
              obtain ⟨o0, o1, o2, of, ol⟩ := row3 HJ.ho
              refine AnyT.last (by kernel_rfl) rfl (by kernel_rfl) (fun K hK => ?_)
              go_simp
              refine hK.out _ _ ?_
              clear hK
              try simp only [Act.put, List.setIfInBounds_toArray, List.set_cons_zero, List.set_cons_succ]
              have h2 := set3 HJ.ho (.slice none 0 0) (.slice B1 s.Bases.length d1) (.slice B2 s.Entries.length d2)
              have HJ := HJ.store h2.2 h2.1 hgo
              go_wp2_with (fail)
              go_meet
              exact ⟨_, B1, B2, d1, d2, S1, S2, rfl, HJ, hgo⟩
        · go_simp
          have HJ := HJ.allocB
          refine hK.out _ _ ⟨HJ.cell y1, HJ.cell y2⟩ ?_
          clear hK
          generalize World.alloc _ (.cells #[] 3) = Wx at HJ ⊢
          try simp only [Act.put, List.setIfInBounds_toArray, List.set_cons_zero, List.set_cons_succ]
          refine AnyT.some1 (i := 3) (by kernel_rfl) rfl (fun K hK => ?_) 
          · refine step_append_hasl (L := s.Bases.length) rfl (.tmp 5) (.tmp 7) elInt flat_int HJ.ha (Ty.up _ hd1 HJ.hg) rfl rfl rfl (Nat.zero_add _).symm (by omega) (by omega) ?_
            intro B1 d1 W1 S1 hon hH hS
            rw [List.nil_append] at hH
            have HJ := HJ.appA hon hH hS
            refine hK.out _ _ ⟨HJ.cell y1, HJ.cell y2⟩ ?_
            clear hK
            try simp only [Act.put, List.setIfInBounds_toArray, List.set_cons_zero, List.set_cons_succ]
            refine AnyT.some1 (i := 7) (by kernel_rfl) rfl (fun K hK => ?_) 
            · refine step_append_hasl (L := s.Entries.length) rfl (.tmp 9) (.tmp 11) elInt flat_int HJ.hb (Ty.up _ hd2 HJ.hg) rfl rfl rfl (Nat.zero_add _).symm (by omega) (by omega) ?_
              intro B2 d2 W2 S2 hon hH hS
              rw [List.nil_append] at hH
              have HJ := HJ.appB hon hH hS
              refine hK.out _ _ ⟨HJ.cell y1, HJ.cell y2⟩ ?_
              clear hK
              try simp only [Act.put, List.setIfInBounds_toArray, List.set_cons_zero, List.set_cons_succ]
              refine AnyT.take (i := 8) (cs := [10]) rfl (by kernel_rfl) (by kernel_rfl) (by kernel_rfl) (by kernel_rfl) rfl (by kernel_rfl) (fun _ _ _ h => h) ⟨HJ.cell y1, HJ.cell y2⟩ (by rfl) (by intro w hSw; (try dsimp only at hSw); go_simp; (try with_reducible rfl)) ?_
              try simp only [Act.put, List.setIfInBounds_toArray, List.set_cons_zero, List.set_cons_succ]
              obtain ⟨o0, o1, o2, of, ol⟩ := row3 HJ.ho
              refine AnyT.last (by kernel_rfl) rfl (by kernel_rfl) (fun K hK => ?_)
              go_simp
              refine hK.out _ _ ?_
              clear hK
              try simp only [Act.put, List.setIfInBounds_toArray, List.set_cons_zero, List.set_cons_succ]
              have h2 := set3 HJ.ho (.slice none 0 0) (.slice B1 s.Bases.length d1) (.slice B2 s.Entries.length d2)
              have HJ := HJ.store h2.2 h2.1 hgo
              go_wp2_with (fail)
              go_meet
              exact ⟨_, B1, B2, d1, d2, S1, S2, rfl, HJ, hgo⟩
    · go_simp
      have HJ := HJ.allocB
      refine hK.out _ _ ⟨HJ.cell y1, HJ.cell y2⟩ ?_
      clear hK
      generalize World.alloc _ (.cells #[] 3) = Wx at HJ ⊢
      try simp only [Act.put, List.setIfInBounds_toArray, List.set_cons_zero, List.set_cons_succ]
      refine AnyT.some2 (i := 0) (j := 9) (by kernel_rfl) rfl rfl (fun K hK => ?_) (fun K hK => ?_) 
      · go_simp
        have HJ := HJ.allocA
        refine hK.out _ _ ⟨HJ.cell y1, HJ.cell y2⟩ ?_
        clear hK
        generalize World.alloc _ (.cells #[] 3) = Wx at HJ ⊢
        try simp only [Act.put, List.setIfInBounds_toArray, List.set_cons_zero, List.set_cons_succ]
        refine AnyT.some2 (i := 3) (j := 9) (by kernel_rfl) rfl rfl (fun K hK => ?_) (fun K hK => ?_) 
        · refine step_append_hasl (L := s.Bases.length) rfl (.tmp 5) (.tmp 7) elInt flat_int HJ.ha (Ty.up _ hd1 HJ.hg) rfl rfl rfl (Nat.zero_add _).symm (by omega) (by omega) ?_
          intro B1 d1 W1 S1 hon hH hS
          rw [List.nil_append] at hH
          have HJ := HJ.appA hon hH hS
          refine hK.out _ _ ⟨HJ.cell y1, HJ.cell y2⟩ ?_
          clear hK
          try simp only [Act.put, List.setIfInBounds_toArray, List.set_cons_zero, List.set_cons_succ]
          refine AnyT.some2 (i := 7) (j := 9) (by kernel_rfl) rfl rfl (fun K hK => ?_) (fun K hK => ?_) 
          · refine step_append_hasl (L := s.Entries.length) rfl (.tmp 9) (.tmp 11) elInt flat_int HJ.hb (Ty.up _ hd2 HJ.hg) rfl rfl rfl (Nat.zero_add _).symm (by omega) (by omega) ?_
            intro B2 d2 W2 S2 hon hH hS
            rw [List.nil_append] at hH
            have HJ := HJ.appB hon hH hS
            refine hK.out _ _ ⟨HJ.cell y1, HJ.cell y2⟩ ?_
            clear hK
            try simp only [Act.put, List.setIfInBounds_toArray, List.set_cons_zero, List.set_cons_succ]
            refine AnyT.take (i := 8) (cs := [10]) rfl (by kernel_rfl) (by kernel_rfl) (by kernel_rfl) (by kernel_rfl) rfl (by kernel_rfl) (fun _ _ _ h => h) ⟨HJ.cell y1, HJ.cell y2⟩ (by rfl) (by intro w hSw; (try dsimp only at hSw); go_simp; (try with_reducible rfl)) ?_
            try simp only [Act.put, List.setIfInBounds_toArray, List.set_cons_zero, List.set_cons_succ]
            refine AnyT.some1 (i := 9) (by kernel_rfl) rfl (fun K hK => ?_) 
            · go_simp
              have hgo := HJ.hg.size
              have HJ := HJ.allocO (cs := #[.slice none 0 0, .slice none 0 0, .slice none 0 0]) (t := 33)
              refine hK.out _ _ ⟨HJ.cell y1, HJ.cell y2⟩ ?_
              clear hK
              generalize World.alloc _ (.cells #[.slice none 0 0, .slice none 0 0, .slice none 0 0] 33) = Wx at HJ ⊢
              try simp only [Act.put, List.setIfInBounds_toArray, List.set_cons_zero, List.set_cons_succ]
              obtain ⟨o0, o1, o2, of, ol⟩ := row3 HJ.ho
              refine AnyT.last (by kernel_rfl) rfl (by kernel_rfl) (fun K hK => ?_)
              go_simp
              refine hK.out _ _ ?_
              clear hK
              try simp only [Act.put, List.setIfInBounds_toArray, List.set_cons_zero, List.set_cons_succ]
              have h2 := set3 HJ.ho (.slice none 0 0) (.slice B1 s.Bases.length d1) (.slice B2 s.Entries.length d2)
              have HJ := HJ.store h2.2 h2.1 hgo
              go_wp2_with (fail)
              go_meet
              exact ⟨_, B1, B2, d1, d2, S1, S2, rfl, HJ, hgo⟩
          · go_simp
            have hgo := HJ.hg.size
            have HJ := HJ.allocO (cs := #[.slice none 0 0, .slice none 0 0, .slice none 0 0]) (t := 33)
            refine hK.out _ _ ⟨HJ.cell y1, HJ.cell y2⟩ ?_
            clear hK
            generalize World.alloc _ (.cells #[.slice none 0 0, .slice none 0 0, .slice none 0 0] 33) = Wx at HJ ⊢
            try simp only [Act.put, List.setIfInBounds_toArray, List.set_cons_zero, List.set_cons_succ]
            refine AnyT.some1 (i := 7) (by kernel_rfl) rfl (fun K hK => ?_) 
            · refine step_append_hasl (L := s.Entries.length) rfl (.tmp 9) (.tmp 11) elInt flat_int HJ.hb (Ty.up _ hd2 HJ.hg) rfl rfl rfl (Nat.zero_add _).symm (by omega) (by omega) ?_
              intro B2 d2 W2 S2 hon hH hS
              rw [List.nil_append] at hH
              have HJ := HJ.appB hon hH hS
              refine hK.out _ _ ⟨HJ.cell y1, HJ.cell y2⟩ ?_
              clear hK
              try simp only [Act.put, List.setIfInBounds_toArray, List.set_cons_zero, List.set_cons_succ]
              refine AnyT.take (i := 8) (cs := [10]) rfl (by kernel_rfl) (by kernel_rfl) (by kernel_rfl) (by kernel_rfl) rfl (by kernel_rfl) (fun _ _ _ h => h) ⟨HJ.cell y1, HJ.cell y2⟩ (by rfl) (by intro w hSw; (try dsimp only at hSw); go_simp; (try with_reducible rfl)) ?_
              try simp only [Act.put, List.setIfInBounds_toArray, List.set_cons_zero, List.set_cons_succ]
              obtain ⟨o0, o1, o2, of, ol⟩ := row3 HJ.ho
              refine AnyT.last (by kernel_rfl) rfl (by kernel_rfl) (fun K hK => ?_)
              go_simp
              refine hK.out _ _ ?_
              clear hK
              try simp only [Act.put, List.setIfInBounds_toArray, List.set_cons_zero, List.set_cons_succ]
              have h2 := set3 HJ.ho (.slice none 0 0) (.slice B1 s.Bases.length d1) (.slice B2 s.Entries.length d2)
              have HJ := HJ.store h2.2 h2.1 hgo
              go_wp2_with (fail)
              go_meet
              exact ⟨_, B1, B2, d1, d2, S1, S2, rfl, HJ, hgo⟩
        · go_simp
          have hgo := HJ.hg.size
          have HJ := HJ.allocO (cs := #[.slice none 0 0, .slice none 0 0, .slice none 0 0]) (t := 33)
          refine hK.out _ _ ⟨HJ.cell y1, HJ.cell y2⟩ ?_
          clear hK
          generalize World.alloc _ (.cells #[.slice none 0 0, .slice none 0 0, .slice none 0 0] 33) = Wx at HJ ⊢
          try simp only [Act.put, List.setIfInBounds_toArray, List.set_cons_zero, List.set_cons_succ]
          refine AnyT.some1 (i := 3) (by kernel_rfl) rfl (fun K hK => ?_) 
          · refine step_append_hasl (L := s.Bases.length) rfl (.tmp 5) (.tmp 7) elInt flat_int HJ.ha (Ty.up _ hd1 HJ.hg) rfl rfl rfl (Nat.zero_add _).symm (by omega) (by omega) ?_
            intro B1 d1 W1 S1 hon hH hS
            rw [List.nil_append] at hH
            have HJ := HJ.appA hon hH hS
            refine hK.out _ _ ⟨HJ.cell y1, HJ.cell y2⟩ ?_
            clear hK
            try simp only [Act.put, List.setIfInBounds_toArray, List.set_cons_zero, List.set_cons_succ]
            refine AnyT.some1 (i := 7) (by kernel_rfl) rfl (fun K hK => ?_) 
            · refine step_append_hasl (L := s.Entries.length) rfl (.tmp 9) (.tmp 11) elInt flat_int HJ.hb (Ty.up _ hd2 HJ.hg) rfl rfl rfl (Nat.zero_add _).symm (by omega) (by omega) ?_
              intro B2 d2 W2 S2 hon hH hS
              rw [List.nil_append] at hH
              have HJ := HJ.appB hon hH hS
              refine hK.out _ _ ⟨HJ.cell y1, HJ.cell y2⟩ ?_
              clear hK
              try simp only [Act.put, List.setIfInBounds_toArray, List.set_cons_zero, List.set_cons_succ]
              refine AnyT.take (i := 8) (cs := [10]) rfl (by kernel_rfl) (by kernel_rfl) (by kernel_rfl) (by kernel_rfl) rfl (by kernel_rfl) (fun _ _ _ h => h) ⟨HJ.cell y1, HJ.cell y2⟩ (by rfl) (by intro w hSw; (try dsimp only at hSw); go_simp; (try with_reducible rfl)) ?_
              try simp only [Act.put, List.setIfInBounds_toArray, List.set_cons_zero, List.set_cons_succ]
              obtain ⟨o0, o1, o2, of, ol⟩ := row3 HJ.ho
              refine AnyT.last (by kernel_rfl) rfl (by kernel_rfl) (fun K hK => ?_)
              go_simp
              refine hK.out _ _ ?_
              clear hK
              try simp only [Act.put, List.setIfInBounds_toArray, List.set_cons_zero, List.set_cons_succ]
              have h2 := set3 HJ.ho (.slice none 0 0) (.slice B1 s.Bases.length d1) (.slice B2 s.Entries.length d2)
              have HJ := HJ.store h2.2 h2.1 hgo
              go_wp2_with (fail)
              go_meet
              exact ⟨_, B1, B2, d1, d2, S1, S2, rfl, HJ, hgo⟩
      · go_simp
        have hgo := HJ.hg.size
        have HJ := HJ.allocO (cs := #[.slice none 0 0, .slice none 0 0, .slice none 0 0]) (t := 33)
        refine hK.out _ _ ⟨HJ.cell y1, HJ.cell y2⟩ ?_
        clear hK
        generalize World.alloc _ (.cells #[.slice none 0 0, .slice none 0 0, .slice none 0 0] 33) = Wx at HJ ⊢
        try simp only [Act.put, List.setIfInBounds_toArray, List.set_cons_zero, List.set_cons_succ]
        refine AnyT.some1 (i := 0) (by kernel_rfl) rfl (fun K hK => ?_) 
        · go_simp
          have HJ := HJ.allocA
          refine hK.out _ _ ⟨HJ.cell y1, HJ.cell y2⟩ ?_
          clear hK
          generalize World.alloc _ (.cells #[] 3) = Wx at HJ ⊢
          try simp only [Act.put, List.setIfInBounds_toArray, List.set_cons_zero, List.set_cons_succ]
          refine AnyT.some1 (i := 3) (by kernel_rfl) rfl (fun K hK => ?_) 
          · refine step_append_hasl (L := s.Bases.length) rfl (.tmp 5) (.tmp 7) elInt flat_int HJ.ha (Ty.up _ hd1 HJ.hg) rfl rfl rfl (Nat.zero_add _).symm (by omega) (by omega) ?_
            intro B1 d1 W1 S1 hon hH hS
            rw [List.nil_append] at hH
            have HJ := HJ.appA hon hH hS
            refine hK.out _ _ ⟨HJ.cell y1, HJ.cell y2⟩ ?_
            clear hK
            try simp only [Act.put, List.setIfInBounds_toArray, List.set_cons_zero, List.set_cons_succ]
            refine AnyT.some1 (i := 7) (by kernel_rfl) rfl (fun K hK => ?_) 
            · refine step_append_hasl (L := s.Entries.length) rfl (.tmp 9) (.tmp 11) elInt flat_int HJ.hb (Ty.up _ hd2 HJ.hg) rfl rfl rfl (Nat.zero_add _).symm (by omega) (by omega) ?_
              intro B2 d2 W2 S2 hon hH hS
              rw [List.nil_append] at hH
              have HJ := HJ.appB hon hH hS
              refine hK.out _ _ ⟨HJ.cell y1, HJ.cell y2⟩ ?_
              clear hK
              try simp only [Act.put, List.setIfInBounds_toArray, List.set_cons_zero, List.set_cons_succ]
              refine AnyT.take (i := 8) (cs := [10]) rfl (by kernel_rfl) (by kernel_rfl) (by kernel_rfl) (by kernel_rfl) rfl (by kernel_rfl) (fun _ _ _ h => h) ⟨HJ.cell y1, HJ.cell y2⟩ (by rfl) (by intro w hSw; (try dsimp only at hSw); go_simp; (try with_reducible rfl)) ?_
              try simp only [Act.put, List.setIfInBounds_toArray, List.set_cons_zero, List.set_cons_succ]
              obtain ⟨o0, o1, o2, of, ol⟩ := row3 HJ.ho
              refine AnyT.last (by kernel_rfl) rfl (by kernel_rfl) (fun K hK => ?_)
              go_simp
              refine hK.out _ _ ?_
              clear hK
              try simp only [Act.put, List.setIfInBounds_toArray, List.set_cons_zero, List.set_cons_succ]
              have h2 := set3 HJ.ho (.slice none 0 0) (.slice B1 s.Bases.length d1) (.slice B2 s.Entries.length d2)
              have HJ := HJ.store h2.2 h2.1 hgo
              go_wp2_with (fail)
              go_meet
              exact ⟨_, B1, B2, d1, d2, S1, S2, rfl, HJ, hgo⟩
    · go_simp
      have hgo := HJ.hg.size
      have HJ := HJ.allocO (cs := #[.slice none 0 0, .slice none 0 0, .slice none 0 0]) (t := 33)
      refine hK.out _ _ ⟨HJ.cell y1, HJ.cell y2⟩ ?_
      clear hK
      generalize World.alloc _ (.cells #[.slice none 0 0, .slice none 0 0, .slice none 0 0] 33) = Wx at HJ ⊢
      try simp only [Act.put, List.setIfInBounds_toArray, List.set_cons_zero, List.set_cons_succ]
      refine AnyT.some2 (i := 0) (j := 4) (by kernel_rfl) rfl rfl (fun K hK => ?_) (fun K hK => ?_) 
      · go_simp
        have HJ := HJ.allocA
        refine hK.out _ _ ⟨HJ.cell y1, HJ.cell y2⟩ ?_
        clear hK
        generalize World.alloc _ (.cells #[] 3) = Wx at HJ ⊢
        try simp only [Act.put, List.setIfInBounds_toArray, List.set_cons_zero, List.set_cons_succ]
        refine AnyT.some2 (i := 3) (j := 4) (by kernel_rfl) rfl rfl (fun K hK => ?_) (fun K hK => ?_) 
        · refine step_append_hasl (L := s.Bases.length) rfl (.tmp 5) (.tmp 7) elInt flat_int HJ.ha (Ty.up _ hd1 HJ.hg) rfl rfl rfl (Nat.zero_add _).symm (by omega) (by omega) ?_
          intro B1 d1 W1 S1 hon hH hS
          rw [List.nil_append] at hH
          have HJ := HJ.appA hon hH hS
          refine hK.out _ _ ⟨HJ.cell y1, HJ.cell y2⟩ ?_
          clear hK
          try simp only [Act.put, List.setIfInBounds_toArray, List.set_cons_zero, List.set_cons_succ]
          refine AnyT.some1 (i := 4) (by kernel_rfl) rfl (fun K hK => ?_) 
          · go_simp
            have HJ := HJ.allocB
            refine hK.out _ _ ⟨HJ.cell y1, HJ.cell y2⟩ ?_
            clear hK
            generalize World.alloc _ (.cells #[] 3) = Wx at HJ ⊢
            try simp only [Act.put, List.setIfInBounds_toArray, List.set_cons_zero, List.set_cons_succ]
            refine AnyT.some1 (i := 7) (by kernel_rfl) rfl (fun K hK => ?_) 
            · refine step_append_hasl (L := s.Entries.length) rfl (.tmp 9) (.tmp 11) elInt flat_int HJ.hb (Ty.up _ hd2 HJ.hg) rfl rfl rfl (Nat.zero_add _).symm (by omega) (by omega) ?_
              intro B2 d2 W2 S2 hon hH hS
              rw [List.nil_append] at hH
              have HJ := HJ.appB hon hH hS
              refine hK.out _ _ ⟨HJ.cell y1, HJ.cell y2⟩ ?_
              clear hK
              try simp only [Act.put, List.setIfInBounds_toArray, List.set_cons_zero, List.set_cons_succ]
              refine AnyT.take (i := 8) (cs := [10]) rfl (by kernel_rfl) (by kernel_rfl) (by kernel_rfl) (by kernel_rfl) rfl (by kernel_rfl) (fun _ _ _ h => h) ⟨HJ.cell y1, HJ.cell y2⟩ (by rfl) (by intro w hSw; (try dsimp only at hSw); go_simp; (try with_reducible rfl)) ?_
              try simp only [Act.put, List.setIfInBounds_toArray, List.set_cons_zero, List.set_cons_succ]
              obtain ⟨o0, o1, o2, of, ol⟩ := row3 HJ.ho
              refine AnyT.last (by kernel_rfl) rfl (by kernel_rfl) (fun K hK => ?_)
              go_simp
              refine hK.out _ _ ?_
              clear hK
              try simp only [Act.put, List.setIfInBounds_toArray, List.set_cons_zero, List.set_cons_succ]
              have h2 := set3 HJ.ho (.slice none 0 0) (.slice B1 s.Bases.length d1) (.slice B2 s.Entries.length d2)
              have HJ := HJ.store h2.2 h2.1 hgo
              go_wp2_with (fail)
              go_meet
              exact ⟨_, B1, B2, d1, d2, S1, S2, rfl, HJ, hgo⟩
        · go_simp
          have HJ := HJ.allocB
          refine hK.out _ _ ⟨HJ.cell y1, HJ.cell y2⟩ ?_
          clear hK
          generalize World.alloc _ (.cells #[] 3) = Wx at HJ ⊢
          try simp only [Act.put, List.setIfInBounds_toArray, List.set_cons_zero, List.set_cons_succ]
          refine AnyT.some1 (i := 3) (by kernel_rfl) rfl (fun K hK => ?_) 
          · refine step_append_hasl (L := s.Bases.length) rfl (.tmp 5) (.tmp 7) elInt flat_int HJ.ha (Ty.up _ hd1 HJ.hg) rfl rfl rfl (Nat.zero_add _).symm (by omega) (by omega) ?_
            intro B1 d1 W1 S1 hon hH hS
            rw [List.nil_append] at hH
            have HJ := HJ.appA hon hH hS
            refine hK.out _ _ ⟨HJ.cell y1, HJ.cell y2⟩ ?_
            clear hK
            try simp only [Act.put, List.setIfInBounds_toArray, List.set_cons_zero, List.set_cons_succ]
            refine AnyT.some1 (i := 7) (by kernel_rfl) rfl (fun K hK => ?_) 
            · refine step_append_hasl (L := s.Entries.length) rfl (.tmp 9) (.tmp 11) elInt flat_int HJ.hb (Ty.up _ hd2 HJ.hg) rfl rfl rfl (Nat.zero_add _).symm (by omega) (by omega) ?_
              intro B2 d2 W2 S2 hon hH hS
              rw [List.nil_append] at hH
              have HJ := HJ.appB hon hH hS
              refine hK.out _ _ ⟨HJ.cell y1, HJ.cell y2⟩ ?_
              clear hK
              try simp only [Act.put, List.setIfInBounds_toArray, List.set_cons_zero, List.set_cons_succ]
              refine AnyT.take (i := 8) (cs := [10]) rfl (by kernel_rfl) (by kernel_rfl) (by kernel_rfl) (by kernel_rfl) rfl (by kernel_rfl) (fun _ _ _ h => h) ⟨HJ.cell y1, HJ.cell y2⟩ (by rfl) (by intro w hSw; (try dsimp only at hSw); go_simp; (try with_reducible rfl)) ?_
              try simp only [Act.put, List.setIfInBounds_toArray, List.set_cons_zero, List.set_cons_succ]
              obtain ⟨o0, o1, o2, of, ol⟩ := row3 HJ.ho
              refine AnyT.last (by kernel_rfl) rfl (by kernel_rfl) (fun K hK => ?_)
              go_simp
              refine hK.out _ _ ?_
              clear hK
              try simp only [Act.put, List.setIfInBounds_toArray, List.set_cons_zero, List.set_cons_succ]
              have h2 := set3 HJ.ho (.slice none 0 0) (.slice B1 s.Bases.length d1) (.slice B2 s.Entries.length d2)
              have HJ := HJ.store h2.2 h2.1 hgo
              go_wp2_with (fail)
              go_meet
              exact ⟨_, B1, B2, d1, d2, S1, S2, rfl, HJ, hgo⟩
      · go_simp
        have HJ := HJ.allocB
        refine hK.out _ _ ⟨HJ.cell y1, HJ.cell y2⟩ ?_
        clear hK
        generalize World.alloc _ (.cells #[] 3) = Wx at HJ ⊢
        try simp only [Act.put, List.setIfInBounds_toArray, List.set_cons_zero, List.set_cons_succ]
        refine AnyT.some1 (i := 0) (by kernel_rfl) rfl (fun K hK => ?_) 
        · go_simp
          have HJ := HJ.allocA
          refine hK.out _ _ ⟨HJ.cell y1, HJ.cell y2⟩ ?_
          clear hK
          generalize World.alloc _ (.cells #[] 3) = Wx at HJ ⊢
          try simp only [Act.put, List.setIfInBounds_toArray, List.set_cons_zero, List.set_cons_succ]
          refine AnyT.some1 (i := 3) (by kernel_rfl) rfl (fun K hK => ?_) 
          · refine step_append_hasl (L := s.Bases.length) rfl (.tmp 5) (.tmp 7) elInt flat_int HJ.ha (Ty.up _ hd1 HJ.hg) rfl rfl rfl (Nat.zero_add _).symm (by omega) (by omega) ?_
            intro B1 d1 W1 S1 hon hH hS
            rw [List.nil_append] at hH
            have HJ := HJ.appA hon hH hS
            refine hK.out _ _ ⟨HJ.cell y1, HJ.cell y2⟩ ?_
            clear hK
            try simp only [Act.put, List.setIfInBounds_toArray, List.set_cons_zero, List.set_cons_succ]
            refine AnyT.some1 (i := 7) (by kernel_rfl) rfl (fun K hK => ?_) 
            · refine step_append_hasl (L := s.Entries.length) rfl (.tmp 9) (.tmp 11) elInt flat_int HJ.hb (Ty.up _ hd2 HJ.hg) rfl rfl rfl (Nat.zero_add _).symm (by omega) (by omega) ?_
              intro B2 d2 W2 S2 hon hH hS
              rw [List.nil_append] at hH
              have HJ := HJ.appB hon hH hS
              refine hK.out _ _ ⟨HJ.cell y1, HJ.cell y2⟩ ?_
              clear hK
              try simp only [Act.put, List.setIfInBounds_toArray, List.set_cons_zero, List.set_cons_succ]
              refine AnyT.take (i := 8) (cs := [10]) rfl (by kernel_rfl) (by kernel_rfl) (by kernel_rfl) (by kernel_rfl) rfl (by kernel_rfl) (fun _ _ _ h => h) ⟨HJ.cell y1, HJ.cell y2⟩ (by rfl) (by intro w hSw; (try dsimp only at hSw); go_simp; (try with_reducible rfl)) ?_
              try simp only [Act.put, List.setIfInBounds_toArray, List.set_cons_zero, List.set_cons_succ]
              obtain ⟨o0, o1, o2, of, ol⟩ := row3 HJ.ho
              refine AnyT.last (by kernel_rfl) rfl (by kernel_rfl) (fun K hK => ?_)
              go_simp
              refine hK.out _ _ ?_
              clear hK
              try simp only [Act.put, List.setIfInBounds_toArray, List.set_cons_zero, List.set_cons_succ]
              have h2 := set3 HJ.ho (.slice none 0 0) (.slice B1 s.Bases.length d1) (.slice B2 s.Entries.length d2)
              have HJ := HJ.store h2.2 h2.1 hgo
              go_wp2_with (fail)
              go_meet
              exact ⟨_, B1, B2, d1, d2, S1, S2, rfl, HJ, hgo⟩
  case rest =>
    obtain ⟨g3, B1, B2, d1, d2, S1, S2, rfl, HJ, hgo⟩ := hcut
    have hgg3 : g ≠ g3 := by omega
    have hl3 := (Array.getElem?_eq_some_iff.1 HJ.ho).1
    have hlI : s.Images.length ≤ 1099511627776 := by unfold szSpace szL at hs; omega
    have c0w := HJ.cell y0
    go_wp2_with (fail)
    go_loopw [4] (fun z wr => ∃ (j : Nat) (A : Option Addr) (c : Nat) (S : List Nat), z = .int .i64 j ∧ j ≤ s.Images.length ∧ Hid (OnlyS [g3] wc wr) ∧ Hid (wr.heap[g3]? = some (.cells #[.slice A j c, .slice B1 s.Bases.length d1, .slice B2 s.Entries.length d2] 33 (0, 0))) ∧ Hid (Has (tImage.sl 96) wr [.slice A j c] (s.Images.take j) S) ∧ Hid (∀ b ∈ S, wc.heap.size ≤ b)) (fun z _ => s.Images.length - (intOf z).toNat)
    case atStart => exact ⟨0, none, 0, [], rfl, Nat.zero_le _, Lib.hid (OnlyS.refl _ _), Lib.hid HJ.ho, Lib.hid (Has.nil _ _ _), Lib.hid (by simp)⟩
    case round =>
      obtain ⟨j, A, c, S, rfl, hj, ho, hb, hH, hS⟩ := hrel
      have hGr : Gro Y wr := ho.out.gro HJ.hg (fun b hb => by simp at hb; omega)
      have hwl : wc.heap.size ≤ wr.heap.size := ho.out.size
      have k0 := gcell hGr y0
      obtain ⟨o0, o1, o2, of, ol⟩ := row3 hb.out
      obtain ⟨z0, z1, z2, zf, zl2⟩ := row3 (grow_blk er hGr)
      by_cases hlt : j < s.Images.length
      · have hdw := hd0
        obtain ⟨gI, off, x, Ax, cx, rfl, hgI, hxk, m0, m1, p0, hsy⟩ := atImage hdw hlt
        have n0 := gcell hGr m0
        have n1 := gcell hGr m1
        have hsy2 := Ty.up _ hsy hGr
        have hki : (j : Int) < (s.Images.length : Int) := by omega
        have hxl : x.Symbols.length ≤ 1099511627776 := by have h2 : x.Symbols.length ≤ szImage x := (by unfold szImage szL; omega); have h1 := szL_elem szImage hxk; unfold szSpace at hs; omega
        have hgI3 : gI ≠ g3 := by omega
        go_upto_region 5 with (fail)
        refine region_T (fun w' => w'.cell? ⟨g, 0, none⟩ = some (.slice (some ⟨gI, off, none⟩) s.Images.length c0) ∧ w'.cell? ⟨g3, 0, none⟩ = some (.slice A j c) ∧ w'.cell? ⟨gI, off + j * 2, none⟩ = some (.string x.Code) ∧ w'.cell? ⟨gI, off + j * 2 + 1, none⟩ = some (.slice Ax x.Symbols.length cx)) 11 (by kernel_rfl) (And.intro (drew_keeps k0) (And.intro (drew_keeps o0) (And.intro (drew_keeps n0) (drew_keeps n1)))) (fun hS9 => ?_)
        refine AnyT.take (i := 0) (cs := [11]) rfl (by kernel_rfl) (by kernel_rfl) (by kernel_rfl) (by kernel_rfl) rfl (by kernel_rfl) (fun _ _ _ h => h) hS9 (by rfl) (by intro w hSw; (try dsimp only at hSw); go_simp; (try with_reducible rfl)) ?_
        try simp only [Act.put, List.setIfInBounds_toArray, List.set_cons_zero, List.set_cons_succ]
        refine AnyT.take (i := 1) (cs := [11]) rfl (by kernel_rfl) (by kernel_rfl) (by kernel_rfl) (by kernel_rfl) rfl (by kernel_rfl) (fun _ _ _ h => h) hS9 (by rfl) (by intro w hSw; (try dsimp only at hSw); go_simp; (try with_reducible rfl)) ?_
        try simp only [Act.put, List.setIfInBounds_toArray, List.set_cons_zero, List.set_cons_succ]
        refine AnyT.take (i := 2) (cs := [11]) rfl (by kernel_rfl) (by kernel_rfl) (by kernel_rfl) (by kernel_rfl) rfl (by kernel_rfl) (fun _ _ _ h => h) hS9 (by rfl) (by intro w hSw; (try dsimp only at hSw); go_simp; (try with_reducible rfl)) ?_
        try simp only [Act.put, List.setIfInBounds_toArray, List.set_cons_zero, List.set_cons_succ]
        refine AnyT.take (i := 3) (cs := [11]) rfl (by kernel_rfl) (by kernel_rfl) (by kernel_rfl) (by kernel_rfl) rfl (by kernel_rfl) (fun _ _ _ h => h) hS9 (by rfl) (by intro w hSw; (try dsimp only at hSw); go_simp; (try with_reducible rfl)) ?_
        try simp only [Act.put, List.setIfInBounds_toArray, List.set_cons_zero, List.set_cons_succ]
        refine AnyT.take (i := 4) (cs := [11]) rfl (by kernel_rfl) (by kernel_rfl) (by kernel_rfl) (by kernel_rfl) rfl (by kernel_rfl) (fun _ _ _ h => h) hS9 (by rfl) (by intro w hSw; (try dsimp only at hSw); go_simp; (try with_reducible rfl)) ?_
        try simp only [Act.put, List.setIfInBounds_toArray, List.set_cons_zero, List.set_cons_succ]
        refine AnyT.take (i := 5) (cs := [11]) rfl (by kernel_rfl) (by kernel_rfl) (by kernel_rfl) (by kernel_rfl) rfl (by kernel_rfl) (fun _ _ _ h => h) hS9 (by rfl) (by intro w hSw; (try dsimp only at hSw); go_simp; (try with_reducible rfl)) ?_
        try simp only [Act.put, List.setIfInBounds_toArray, List.set_cons_zero, List.set_cons_succ]
        refine AnyT.take (i := 6) (cs := [11]) rfl (by kernel_rfl) (by kernel_rfl) (by kernel_rfl) (by kernel_rfl) rfl (by kernel_rfl) (fun _ _ _ h => h) hS9 (by rfl) (by intro w hSw; (try dsimp only at hSw); go_simp; (try with_reducible rfl)) ?_
        try simp only [Act.put, List.setIfInBounds_toArray, List.set_cons_zero, List.set_cons_succ]
        refine AnyT.some1 (i := 7) (by kernel_rfl) rfl (fun K hK => ?_) 
        · go_simp
          go_at_call 89
          with_reducible refine (copyImage_s (x := x) p0 (Ty.up _ hsy2 (by repeat (first | with_reducible exact Gro.refl _ | with_reducible exact Gro.refl_drew _ _ _ | with_reducible exact Gro.refl_drewN _ _ _ _ | assumption | with_reducible apply Gro.more | with_reducible apply Gro.alloc | with_reducible apply Gro.drew | with_reducible apply Gro.drewN))) hxl).mono ?_
          rintro e w2 ⟨Bi, ci, rfl, hFi, os2, d2, rfl⟩
          have hS9 := And.intro (gro_keeps (drew_keeps k0) os2 d2) (And.intro (gro_keeps (drew_keeps o0) os2 d2) (And.intro (gro_keeps (drew_keeps n0) os2 d2) (gro_keeps (drew_keeps n1) os2 d2)))
          refine hK.out _ _ hS9 ?_
          clear hK
          try simp only [Act.put, List.setIfInBounds_toArray, List.set_cons_zero, List.set_cons_succ]
          refine AnyT.some1 (i := 8) (by kernel_rfl) rfl (fun K hK => ?_) 
          · go_simp
            have hS9 := And.intro (alloc_keeps (gro_keeps (drew_keeps k0) os2 d2) (.cells #[.string x.Code, .slice Bi x.Symbols.length ci] 96)) (And.intro (alloc_keeps (gro_keeps (drew_keeps o0) os2 d2) (.cells #[.string x.Code, .slice Bi x.Symbols.length ci] 96)) (And.intro (alloc_keeps (gro_keeps (drew_keeps n0) os2 d2) (.cells #[.string x.Code, .slice Bi x.Symbols.length ci] 96)) (alloc_keeps (gro_keeps (drew_keeps n1) os2 d2) (.cells #[.string x.Code, .slice Bi x.Symbols.length ci] 96))))
            refine hK.out _ _ hS9 ?_
            clear hK
            try simp only [Act.put, List.setIfInBounds_toArray, List.set_cons_zero, List.set_cons_succ]
            refine AnyT.some1 (i := 9) (by kernel_rfl) rfl (fun K hK => ?_) 
            · obtain ⟨Sy, hHy, hly⟩ := Fresh.has hFi
              have hdis : ∀ b ∈ S, b ∉ Sy := fun b hb' hm => by have h1 := hly b hm; have h2 := hH.out.lt b hb'; simp at h1; omega
              refine step_append_has (L := j + 1) rfl (.tmp 22) (.tmp 29) elImage (hH.out.gro (by (repeat (first | with_reducible exact Gro.refl _ | with_reducible exact Gro.refl_drew _ _ _ | with_reducible exact Gro.refl_drewN _ _ _ _ | assumption | with_reducible apply Gro.more | with_reducible apply Gro.alloc | with_reducible apply Gro.drew | with_reducible apply Gro.drewN)); done)) (hHy.gro (by (repeat (first | with_reducible exact Gro.refl _ | with_reducible exact Gro.refl_drew _ _ _ | with_reducible exact Gro.refl_drewN _ _ _ _ | assumption | with_reducible apply Gro.more | with_reducible apply Gro.alloc | with_reducible apply Gro.drew | with_reducible apply Gro.drewN)); done)) hdis rfl rfl rfl (by intro j u hu; simpa [go_sem] using hu) rfl (by omega) (by omega) ?_
              intro A7 c7 W7 S7 hon hH7 hS7
              have hgS : ∀ k, k < wc.heap.size → k ∉ S := fun k hk hm => by have := hS.out k hm; omega
              have e7 := frz_thru hb.out (by (repeat (first | with_reducible exact Gro.refl _ | with_reducible exact Gro.refl_drew _ _ _ | with_reducible exact Gro.refl_drewN _ _ _ _ | assumption | with_reducible apply Gro.more | with_reducible apply Gro.alloc | with_reducible apply Gro.drew | with_reducible apply Gro.drewN)); done) hon (hgS _ (by omega))
              have hS9 := And.intro (keep_thru k0 (by (repeat (first | with_reducible exact Gro.refl _ | with_reducible exact Gro.refl_drew _ _ _ | with_reducible exact Gro.refl_drewN _ _ _ _ | assumption | with_reducible apply Gro.more | with_reducible apply Gro.alloc | with_reducible apply Gro.drew | with_reducible apply Gro.drewN)); done) hon (hgS _ (by omega))) (And.intro (keep_thru o0 (by (repeat (first | with_reducible exact Gro.refl _ | with_reducible exact Gro.refl_drew _ _ _ | with_reducible exact Gro.refl_drewN _ _ _ _ | assumption | with_reducible apply Gro.more | with_reducible apply Gro.alloc | with_reducible apply Gro.drew | with_reducible apply Gro.drewN)); done) hon (hgS _ (by omega))) (And.intro (keep_thru n0 (by (repeat (first | with_reducible exact Gro.refl _ | with_reducible exact Gro.refl_drew _ _ _ | with_reducible exact Gro.refl_drewN _ _ _ _ | assumption | with_reducible apply Gro.more | with_reducible apply Gro.alloc | with_reducible apply Gro.drew | with_reducible apply Gro.drewN)); done) hon (hgS _ (by omega))) (keep_thru n1 (by (repeat (first | with_reducible exact Gro.refl _ | with_reducible exact Gro.refl_drew _ _ _ | with_reducible exact Gro.refl_drewN _ _ _ _ | assumption | with_reducible apply Gro.more | with_reducible apply Gro.alloc | with_reducible apply Gro.drew | with_reducible apply Gro.drewN)); done) hon (hgS _ (by omega)))))
              have hGo : Gro wr ((gro wr os2 d2).alloc (.cells #[.string x.Code, .slice Bi x.Symbols.length ci] 96)) := (by (repeat (first | with_reducible exact Gro.refl _ | with_reducible exact Gro.refl_drew _ _ _ | with_reducible exact Gro.refl_drewN _ _ _ _ | assumption | with_reducible apply Gro.more | with_reducible apply Gro.alloc | with_reducible apply Gro.drew | with_reducible apply Gro.drewN)); done)
              have hlo : ∀ b ∈ S7, wc.heap.size ≤ b := fun b hb' => by
                rcases hS7 b hb' with h | h | h
                · exact hS.out b h
                · have h8 : wr.heap.size ≤ b := hly b h
                  omega
                · have := hGo.size; omega
              have ho9 := only_step ho.out hGo hon hS.out 0 (.slice A7 (j + 1) c7)
              have hb9 := set_at (i := 0) (v := .slice A7 (j + 1) c7) e7 rfl
              have hH9 := hH7.keep ((OnlyS.refl [g3] W7).setCell (p := ⟨g3, 0, none⟩) (by simp) (.slice A7 (j + 1) c7)) (fun b hb' hm => by have := hlo b hb'; simp at hm; omega)
              refine hK.out _ _ hS9 ?_
              clear hK
              try simp only [Act.put, List.setIfInBounds_toArray, List.set_cons_zero, List.set_cons_succ]
              refine AnyT.take (i := 10) (cs := [11]) rfl (by kernel_rfl) (by kernel_rfl) (by kernel_rfl) (by kernel_rfl) rfl (by kernel_rfl) (fun _ _ _ h => h) hS9 (by rfl) (by intro w hSw; (try dsimp only at hSw); go_simp; (try with_reducible rfl)) ?_
              try simp only [Act.put, List.setIfInBounds_toArray, List.set_cons_zero, List.set_cons_succ]
              obtain ⟨a0, a1, a2, af, al⟩ := row3 e7
              refine AnyT.last (by kernel_rfl) rfl (by kernel_rfl) (fun K hK => ?_)
              go_simp
              refine hK.out _ _ ?_
              clear hK
              try simp only [Act.put, List.setIfInBounds_toArray, List.set_cons_zero, List.set_cons_succ]
              generalize W7.setCell ⟨g3, 0, none⟩ (.slice A7 (j + 1) c7) = X at ho9 hb9 hH9 ⊢
              clear hS9 hon hH7 hS7 e7 hb hH ho
              have htk : s.Images.take j ++ [x] = s.Images.take (j + 1) := by rw [List.take_add_one, hxk]; rfl
              rw [htk] at hH9
              go_wp2_with (fail)
              go_roundw
              case measure => (simp [intOf]; try omega)
              case rel => exact ⟨j + 1, A7, c7, S7, by simp, by omega, Lib.hid ho9, Lib.hid hb9, Lib.hid hH9, Lib.hid hlo⟩
      · obtain rfl : j = s.Images.length := by omega
        have hki : ¬ (s.Images.length : Int) < (s.Images.length : Int) := by omega
        have hHt := hH.out
        rw [List.take_length] at hHt
        go_wp2_with (fail)
        have h9 := set3 (grow_blk er hGr) (.slice A s.Images.length c) (.slice B1 s.Bases.length d1) (.slice B2 s.Entries.length d2)
        obtain ⟨r0, r1, r2, _, _⟩ := row3 h9.1
        have hHI := hHt.keep h9.2 (fun b hb' hm => by have := hS.out b hb'; simp at hm; omega)
        have hHa := (HJ.ha.keep ho.out (fun b hb' hm => by simp at hm; exact HJ.hoa (hm ▸ hb'))).keep h9.2 (fun b hb' hm => by have := HJ.la b hb'; simp at hm; omega)
        have hHb := (HJ.hb.keep ho.out (fun b hb' hm => by simp at hm; exact HJ.hob (hm ▸ hb'))).keep h9.2 (fun b hb' hm => by have := HJ.lb b hb'; simp at hm; omega)
        have hYw : w.heap.size ≤ Y.heap.size := hG0.size
        refine bodyPost_ret (v := .agg #[.slice A s.Images.length c, .slice B1 s.Bases.length d1, .slice B2 s.Entries.length d2]) (by simp [results, Try.results53, go_sem, r0, r1, r2]) rfl ⟨A, c, B1, d1, B2, d2, rfl, ⟨_, tSpace_mkOd hHI.1 hHa.1 hHb.1, ?_, ?_⟩, h9.2.gro (hG0.trans hGr) (fun b hb' => by simp at hb'; omega)⟩
        · refine List.nodup_append.2 ⟨List.nodup_append.2 ⟨hHI.2, hHa.2, fun a ha b hb' he => ?_⟩, hHb.2, fun a ha b hb' he => ?_⟩
          · have h1 := hS.out a ha
            have h2 := HJ.ha.lt b hb'
            omega
          · rcases List.mem_append.1 ha with ha | ha
            · have h1 := hS.out a ha
              have h2 := HJ.hb.lt b hb'
              omega
            · exact HJ.hab a ha (he ▸ hb')
        · intro b hb'
          rcases List.mem_append.1 hb' with hb' | hb'
          · rcases List.mem_append.1 hb' with hb' | hb'
            · have := hS.out b hb'
              omega
            · have := HJ.la b hb'
              omega
          · have := HJ.lb b hb'
            omega

set_option maxRecDepth 100000 in
set_option maxHeartbeats 8000000 in
theorem copySpace_i {s : DSpace} {w : World} {A0 A1 A2 : Option Addr} {c0 c1 c2 : Nat} (h0 : (tImage.sl 96).R w w.heap.size [.slice A0 s.Images.length c0] s.Images) (h1 : (intT.sl 3).R w w.heap.size [.slice A1 s.Bases.length c1] s.Bases)
    (h2 : (intT.sl 3).R w w.heap.size [.slice A2 s.Entries.length c2] s.Entries) (hs : szSpace s ≤ 1099511627776) :
    Calls Try.prog 57 #[.agg #[.slice A0 s.Images.length c0, .slice A1 s.Bases.length c1, .slice A2 s.Entries.length c2]] w (RetSpace s w) := by
  have hl1 : s.Bases.length ≤ 1099511627776 := by unfold szSpace at hs; omega
  have hl2 : s.Entries.length ≤ 1099511627776 := by unfold szSpace at hs; omega
  go_enter Try.func57, Try.ntmps57
  go_upto_region 1 with (fail)
  have hG0 : Gro w ((w.alloc (.cells #[.slice A0 s.Images.length c0, .slice A1 s.Bases.length c1, .slice A2 s.Entries.length c2] 33)).alloc (.cells #[.slice none 0 0, .slice none 0 0, .slice none 0 0] 33)) := (by repeat (first | with_reducible exact Gro.refl _ | with_reducible exact Gro.refl_drew _ _ _ | with_reducible exact Gro.refl_drewN _ _ _ _ | assumption | with_reducible apply Gro.more | with_reducible apply Gro.alloc | with_reducible apply Gro.drew | with_reducible apply Gro.drewN))
  have eb : ((w.alloc (.cells #[.slice A0 s.Images.length c0, .slice A1 s.Bases.length c1, .slice A2 s.Entries.length c2] 33)).alloc (.cells #[.slice none 0 0, .slice none 0 0, .slice none 0 0] 33)).heap[w.heap.size]? = some (.cells #[.slice A0 s.Images.length c0, .slice A1 s.Bases.length c1, .slice A2 s.Entries.length c2] 33 (0, 0)) := grow_blk (heap_alloc_new w _) (by (repeat (first | with_reducible exact Gro.refl _ | with_reducible exact Gro.refl_drew _ _ _ | with_reducible exact Gro.refl_drewN _ _ _ _ | assumption | with_reducible apply Gro.more | with_reducible apply Gro.alloc | with_reducible apply Gro.drew | with_reducible apply Gro.drewN)); done)
  have er : ((w.alloc (.cells #[.slice A0 s.Images.length c0, .slice A1 s.Bases.length c1, .slice A2 s.Entries.length c2] 33)).alloc (.cells #[.slice none 0 0, .slice none 0 0, .slice none 0 0] 33)).heap[w.heap.size + 1]? = some (.cells #[.slice none 0 0, .slice none 0 0, .slice none 0 0] 33 (0, 0)) := by have h := heap_alloc_new (w.alloc (.cells #[.slice A0 s.Images.length c0, .slice A1 s.Bases.length c1, .slice A2 s.Entries.length c2] 33)) (.cells #[.slice none 0 0, .slice none 0 0, .slice none 0 0] 33); rw [World.size_alloc] at h; exact h
  have hd0 := Ty.up _ h0 hG0
  have hd1 := Ty.up _ h1 hG0
  have hd2 := Ty.up _ h2 hG0
  obtain ⟨g, hg⟩ : ∃ g, w.heap.size = g := ⟨_, rfl⟩
  rw [hg] at eb er ⊢
  generalize ((w.alloc (.cells #[.slice A0 s.Images.length c0, .slice A1 s.Bases.length c1, .slice A2 s.Entries.length c2] 33)).alloc (.cells #[.slice none 0 0, .slice none 0 0, .slice none 0 0] 33)) = Y at hG0 eb er hd0 hd1 hd2 ⊢
  obtain ⟨y0, y1, y2, _, yl⟩ := row3 eb
  have zl := (row3 er).2.2.2.2
  clear h0 h1 h2
  go_cut [3] from 3 to 14 (fun v3 wx => ∃ (g3 : Nat) (B1 B2 : Option Addr) (d1 d2 : Nat) (S1 S2 : List Nat), v3 = .pointer (some ⟨g3, 0, none⟩) ∧ J3 intT intT 3 3 Y wx (.slice B1 s.Bases.length d1) (.slice B2 s.Entries.length d2) s.Bases s.Entries S1 S2 g3 (.cells #[.slice none 0 0, .slice B1 s.Bases.length d1, .slice B2 s.Entries.length d2] 33 (0, 0)) ∧ Y.heap.size ≤ g3)
  case first =>
    refine region_T (fun w' => w'.cell? ⟨g, 1, none⟩ = some (.slice A1 s.Bases.length c1) ∧ w'.cell? ⟨g, 2, none⟩ = some (.slice A2 s.Entries.length c2)) 10 (by kernel_rfl) ⟨drew_keeps y1, drew_keeps y2⟩ (fun hH => ?_)
    have HJ := J3.start (T := intT) (U := intT) (e := 3) (f := 3) er
    have HJ := HJ.gro ((Gro.refl _).drew)
    generalize hYd : Y.drew = Wx at HJ hH ⊢
    clear hYd
    refine AnyT.take (i := 1) (cs := [10]) rfl (by kernel_rfl) (by kernel_rfl) (by kernel_rfl) (by kernel_rfl) rfl (by kernel_rfl) (fun _ _ _ h => h) hH (by rfl) (by intro w hSw; (try dsimp only at hSw); go_simp; (try with_reducible rfl)) ?_
    try simp only [Act.put, List.setIfInBounds_toArray, List.set_cons_zero, List.set_cons_succ]
    refine AnyT.take (i := 2) (cs := [10]) rfl (by kernel_rfl) (by kernel_rfl) (by kernel_rfl) (by kernel_rfl) rfl (by kernel_rfl) (fun _ _ _ h => h) hH (by rfl) (by intro w hSw; (try dsimp only at hSw); go_simp; (try with_reducible rfl)) ?_
    try simp only [Act.put, List.setIfInBounds_toArray, List.set_cons_zero, List.set_cons_succ]
    refine AnyT.take (i := 5) (cs := [10]) rfl (by kernel_rfl) (by kernel_rfl) (by kernel_rfl) (by kernel_rfl) rfl (by kernel_rfl) (fun _ _ _ h => h) hH (by rfl) (by intro w hSw; (try dsimp only at hSw); go_simp; (try with_reducible rfl)) ?_
    try simp only [Act.put, List.setIfInBounds_toArray, List.set_cons_zero, List.set_cons_succ]
    refine AnyT.take (i := 6) (cs := [10]) rfl (by kernel_rfl) (by kernel_rfl) (by kernel_rfl) (by kernel_rfl) rfl (by kernel_rfl) (fun _ _ _ h => h) hH (by rfl) (by intro w hSw; (try dsimp only at hSw); go_simp; (try with_reducible rfl)) ?_
    try simp only [Act.put, List.setIfInBounds_toArray, List.set_cons_zero, List.set_cons_succ]
    refine AnyT.some3 (i := 0) (j := 4) (l := 9) (by kernel_rfl) rfl rfl rfl (fun K hK => ?_) (fun K hK => ?_) (fun K hK => ?_) 
    · go_simp
      have HJ := HJ.allocA
      refine hK.out _ _ ⟨HJ.cell y1, HJ.cell y2⟩ ?_
      clear hK
      generalize World.alloc _ (.cells #[] 3) = Wx at HJ ⊢
      try simp only [Act.put, List.setIfInBounds_toArray, List.set_cons_zero, List.set_cons_succ]
      refine AnyT.some3 (i := 3) (j := 4) (l := 9) (by kernel_rfl) rfl rfl rfl (fun K hK => ?_) (fun K hK => ?_) (fun K hK => ?_) 
      · refine step_append_hasl (L := s.Bases.length) rfl (.tmp 6) (.tmp 8) elInt flat_int HJ.ha (Ty.up _ hd1 HJ.hg) rfl rfl rfl (Nat.zero_add _).symm (by omega) (by omega) ?_
        intro B1 d1 W1 S1 hon hH hS
        rw [List.nil_append] at hH
        have HJ := HJ.appA hon hH hS
        refine hK.out _ _ ⟨HJ.cell y1, HJ.cell y2⟩ ?_
        clear hK
        try simp only [Act.put, List.setIfInBounds_toArray, List.set_cons_zero, List.set_cons_succ]
        refine AnyT.some2 (i := 4) (j := 9) (by kernel_rfl) rfl rfl (fun K hK => ?_) (fun K hK => ?_) 
        · go_simp
          have HJ := HJ.allocB
          refine hK.out _ _ ⟨HJ.cell y1, HJ.cell y2⟩ ?_
          clear hK
          generalize World.alloc _ (.cells #[] 3) = Wx at HJ ⊢
          try simp only [Act.put, List.setIfInBounds_toArray, List.set_cons_zero, List.set_cons_succ]
          refine AnyT.some2 (i := 7) (j := 9) (by kernel_rfl) rfl rfl (fun K hK => ?_) (fun K hK => ?_) 
          · refine step_append_hasl (L := s.Entries.length) rfl (.tmp 10) (.tmp 12) elInt flat_int HJ.hb (Ty.up _ hd2 HJ.hg) rfl rfl rfl (Nat.zero_add _).symm (by omega) (by omega) ?_
            intro B2 d2 W2 S2 hon hH hS
            rw [List.nil_append] at hH
            have HJ := HJ.appB hon hH hS
            refine hK.out _ _ ⟨HJ.cell y1, HJ.cell y2⟩ ?_
            clear hK
            try simp only [Act.put, List.setIfInBounds_toArray, List.set_cons_zero, List.set_cons_succ]
            refine AnyT.take (i := 8) (cs := [10]) rfl (by kernel_rfl) (by kernel_rfl) (by kernel_rfl) (by kernel_rfl) rfl (by kernel_rfl) (fun _ _ _ h => h) ⟨HJ.cell y1, HJ.cell y2⟩ (by rfl) (by intro w hSw; (try dsimp only at hSw); go_simp; (try with_reducible rfl)) ?_
            try simp only [Act.put, List.setIfInBounds_toArray, List.set_cons_zero, List.set_cons_succ]
            refine AnyT.some1 (i := 9) (by kernel_rfl) rfl (fun K hK => ?_) 
            · go_simp
              have hgo := HJ.hg.size
              have HJ := HJ.allocO (cs := #[.slice none 0 0, .slice none 0 0, .slice none 0 0]) (t := 33)
              refine hK.out _ _ ⟨HJ.cell y1, HJ.cell y2⟩ ?_
              clear hK
              generalize World.alloc _ (.cells #[.slice none 0 0, .slice none 0 0, .slice none 0 0] 33) = Wx at HJ ⊢
              try simp only [Act.put, List.setIfInBounds_toArray, List.set_cons_zero, List.set_cons_succ]
              obtain ⟨o0, o1, o2, of, ol⟩ := row3 HJ.ho
              refine AnyT.last (by kernel_rfl) rfl (by kernel_rfl) (fun K hK => ?_)
              go_simp
              refine hK.out _ _ ?_
              clear hK
              try simp only [Act.put, List.setIfInBounds_toArray, List.set_cons_zero, List.set_cons_succ]
              have h2 := set3 HJ.ho (.slice none 0 0) (.slice B1 s.Bases.length d1) (.slice B2 s.Entries.length d2)
              have HJ := HJ.store h2.2 h2.1 hgo
              go_wp2_with (fail)
              go_meet
              exact ⟨_, B1, B2, d1, d2, S1, S2, rfl, HJ, hgo⟩
          · go_simp
            have hgo := HJ.hg.size
            have HJ := HJ.allocO (cs := #[.slice none 0 0, .slice none 0 0, .slice none 0 0]) (t := 33)
            refine hK.out _ _ ⟨HJ.cell y1, HJ.cell y2⟩ ?_
            clear hK
            generalize World.alloc _ (.cells #[.slice none 0 0, .slice none 0 0, .slice none 0 0] 33) = Wx at HJ ⊢
            try simp only [Act.put, List.setIfInBounds_toArray, List.set_cons_zero, List.set_cons_succ]
            refine AnyT.some1 (i := 7) (by kernel_rfl) rfl (fun K hK => ?_) 
            · refine step_append_hasl (L := s.Entries.length) rfl (.tmp 10) (.tmp 12) elInt flat_int HJ.hb (Ty.up _ hd2 HJ.hg) rfl rfl rfl (Nat.zero_add _).symm (by omega) (by omega) ?_
              intro B2 d2 W2 S2 hon hH hS
              rw [List.nil_append] at hH
              have HJ := HJ.appB hon hH hS
              refine hK.out _ _ ⟨HJ.cell y1, HJ.cell y2⟩ ?_
              clear hK
              try simp only [Act.put, List.setIfInBounds_toArray, List.set_cons_zero, List.set_cons_succ]
              refine AnyT.take (i := 8) (cs := [10]) rfl (by kernel_rfl) (by kernel_rfl) (by kernel_rfl) (by kernel_rfl) rfl (by kernel_rfl) (fun _ _ _ h => h) ⟨HJ.cell y1, HJ.cell y2⟩ (by rfl) (by intro w hSw; (try dsimp only at hSw); go_simp; (try with_reducible rfl)) ?_
              try simp only [Act.put, List.setIfInBounds_toArray, List.set_cons_zero, List.set_cons_succ]
              obtain ⟨o0, o1, o2, of, ol⟩ := row3 HJ.ho
              refine AnyT.last (by kernel_rfl) rfl (by kernel_rfl) (fun K hK => ?_)
              go_simp
              refine hK.out _ _ ?_
              clear hK
              try simp only [Act.put, List.setIfInBounds_toArray, List.set_cons_zero, List.set_cons_succ]
              have h2 := set3 HJ.ho (.slice none 0 0) (.slice B1 s.Bases.length d1) (.slice B2 s.Entries.length d2)
              have HJ := HJ.store h2.2 h2.1 hgo
              go_wp2_with (fail)
              go_meet
              exact ⟨_, B1, B2, d1, d2, S1, S2, rfl, HJ, hgo⟩
        · go_simp
          have hgo := HJ.hg.size
          have HJ := HJ.allocO (cs := #[.slice none 0 0, .slice none 0 0, .slice none 0 0]) (t := 33)
          refine hK.out _ _ ⟨HJ.cell y1, HJ.cell y2⟩ ?_
          clear hK
          generalize World.alloc _ (.cells #[.slice none 0 0, .slice none 0 0, .slice none 0 0] 33) = Wx at HJ ⊢
          try simp only [Act.put, List.setIfInBounds_toArray, List.set_cons_zero, List.set_cons_succ]
          refine AnyT.some1 (i := 4) (by kernel_rfl) rfl (fun K hK => ?_) 
          · go_simp
            have HJ := HJ.allocB
            refine hK.out _ _ ⟨HJ.cell y1, HJ.cell y2⟩ ?_
            clear hK
            generalize World.alloc _ (.cells #[] 3) = Wx at HJ ⊢
            try simp only [Act.put, List.setIfInBounds_toArray, List.set_cons_zero, List.set_cons_succ]
            refine AnyT.some1 (i := 7) (by kernel_rfl) rfl (fun K hK => ?_) 
            · refine step_append_hasl (L := s.Entries.length) rfl (.tmp 10) (.tmp 12) elInt flat_int HJ.hb (Ty.up _ hd2 HJ.hg) rfl rfl rfl (Nat.zero_add _).symm (by omega) (by omega) ?_
              intro B2 d2 W2 S2 hon hH hS
              rw [List.nil_append] at hH
              have HJ := HJ.appB hon hH hS
              refine hK.out _ _ ⟨HJ.cell y1, HJ.cell y2⟩ ?_
              clear hK
              try simp only [Act.put, List.setIfInBounds_toArray, List.set_cons_zero, List.set_cons_succ]
              refine AnyT.take (i := 8) (cs := [10]) rfl (by kernel_rfl) (by kernel_rfl) (by kernel_rfl) (by kernel_rfl) rfl (by kernel_rfl) (fun _ _ _ h => h) ⟨HJ.cell y1, HJ.cell y2⟩ (by rfl) (by intro w hSw; (try dsimp only at hSw); go_simp; (try with_reducible rfl)) ?_
              try simp only [Act.put, List.setIfInBounds_toArray, List.set_cons_zero, List.set_cons_succ]
              obtain ⟨o0, o1, o2, of, ol⟩ := row3 HJ.ho
              refine AnyT.last (by kernel_rfl) rfl (by kernel_rfl) (fun K hK => ?_)
              go_simp
              refine hK.out _ _ ?_
              clear hK
              try simp only [Act.put, List.setIfInBounds_toArray, List.set_cons_zero, List.set_cons_succ]
              have h2 := set3 HJ.ho (.slice none 0 0) (.slice B1 s.Bases.length d1) (.slice B2 s.Entries.length d2)
              have HJ := HJ.store h2.2 h2.1 hgo
              go_wp2_with (fail)
              go_meet
              exact ⟨_, B1, B2, d1, d2, S1, S2, rfl, HJ, hgo⟩
      · go_simp
        have HJ := HJ.allocB
        refine hK.out _ _ ⟨HJ.cell y1, HJ.cell y2⟩ ?_
        clear hK
        generalize World.alloc _ (.cells #[] 3) = Wx at HJ ⊢
        try simp only [Act.put, List.setIfInBounds_toArray, List.set_cons_zero, List.set_cons_succ]
        refine AnyT.some2 (i := 3) (j := 9) (by kernel_rfl) rfl rfl (fun K hK => ?_) (fun K hK => ?_) 
        · refine step_append_hasl (L := s.Bases.length) rfl (.tmp 6) (.tmp 8) elInt flat_int HJ.ha (Ty.up _ hd1 HJ.hg) rfl rfl rfl (Nat.zero_add _).symm (by omega) (by omega) ?_
          intro B1 d1 W1 S1 hon hH hS
          rw [List.nil_append] at hH
          have HJ := HJ.appA hon hH hS
          refine hK.out _ _ ⟨HJ.cell y1, HJ.cell y2⟩ ?_
          clear hK
          try simp only [Act.put, List.setIfInBounds_toArray, List.set_cons_zero, List.set_cons_succ]
          refine AnyT.some2 (i := 7) (j := 9) (by kernel_rfl) rfl rfl (fun K hK => ?_) (fun K hK => ?_) 
          · refine step_append_hasl (L := s.Entries.length) rfl (.tmp 10) (.tmp 12) elInt flat_int HJ.hb (Ty.up _ hd2 HJ.hg) rfl rfl rfl (Nat.zero_add _).symm (by omega) (by omega) ?_
            intro B2 d2 W2 S2 hon hH hS
            rw [List.nil_append] at hH
            have HJ := HJ.appB hon hH hS
            refine hK.out _ _ ⟨HJ.cell y1, HJ.cell y2⟩ ?_
            clear hK
            try simp only [Act.put, List.setIfInBounds_toArray, List.set_cons_zero, List.set_cons_succ]
            refine AnyT.take (i := 8) (cs := [10]) rfl (by kernel_rfl) (by kernel_rfl) (by kernel_rfl) (by kernel_rfl) rfl (by kernel_rfl) (fun _ _ _ h => h) ⟨HJ.cell y1, HJ.cell y2⟩ (by rfl) (by intro w hSw; (try dsimp only at hSw); go_simp; (try with_reducible rfl)) ?_
            try simp only [Act.put, List.setIfInBounds_toArray, List.set_cons_zero, List.set_cons_succ]
            refine AnyT.some1 (i := 9) (by kernel_rfl) rfl (fun K hK => ?_) 
            · go_simp
              have hgo := HJ.hg.size
              have HJ := HJ.allocO (cs := #[.slice none 0 0, .slice none 0 0, .slice none 0 0]) (t := 33)
              refine hK.out _ _ ⟨HJ.cell y1, HJ.cell y2⟩ ?_
              clear hK
              generalize World.alloc _ (.cells #[.slice none 0 0, .slice none 0 0, .slice none 0 0] 33) = Wx at HJ ⊢
              try simp only [Act.put, List.setIfInBounds_toArray, List.set_cons_zero, List.set_cons_succ]
              obtain ⟨o0, o1, o2, of, ol⟩ := row3 HJ.ho
              refine AnyT.last (by kernel_rfl) rfl (by kernel_rfl) (fun K hK => ?_)
              go_simp
              refine hK.out _ _ ?_
              clear hK
              try simp only [Act.put, List.setIfInBounds_toArray, List.set_cons_zero, List.set_cons_succ]
              have h2 := set3 HJ.ho (.slice none 0 0) (.slice B1 s.Bases.length d1) (.slice B2 s.Entries.length d2)
              have HJ := HJ.store h2.2 h2.1 hgo
              go_wp2_with (fail)
              go_meet
              exact ⟨_, B1, B2, d1, d2, S1, S2, rfl, HJ, hgo⟩
          · go_simp
            have hgo := HJ.hg.size
            have HJ := HJ.allocO (cs := #[.slice none 0 0, .slice none 0 0, .slice none 0 0]) (t := 33)
            refine hK.out _ _ ⟨HJ.cell y1, HJ.cell y2⟩ ?_
            clear hK
            generalize World.alloc _ (.cells #[.slice none 0 0, .slice none 0 0, .slice none 0 0] 33) = Wx at HJ ⊢
            try simp only [Act.put, List.setIfInBounds_toArray, List.set_cons_zero, List.set_cons_succ]
            refine AnyT.some1 (i := 7) (by kernel_rfl) rfl (fun K hK => ?_) 
            · refine step_append_hasl (L := s.Entries.length) rfl (.tmp 10) (.tmp 12) elInt flat_int HJ.hb (Ty.up _ hd2 HJ.hg) rfl rfl rfl (Nat.zero_add _).symm (by omega) (by omega) ?_
              intro B2 d2 W2 S2 hon hH hS
              rw [List.nil_append] at hH
              have HJ := HJ.appB hon hH hS
              refine hK.out _ _ ⟨HJ.cell y1, HJ.cell y2⟩ ?_
              clear hK
              try simp only [Act.put, List.setIfInBounds_toArray, List.set_cons_zero, List.set_cons_succ]
              refine AnyT.take (i := 8) (cs := [10]) rfl (by kernel_rfl) (by kernel_rfl) (by kernel_rfl) (by kernel_rfl) rfl (by kernel_rfl) (fun _ _ _ h => h) ⟨HJ.cell y1, HJ.cell y2⟩ (by rfl) (by intro w hSw; (try dsimp only at hSw); go_simp; (try with_reducible rfl)) ?_
              try simp only [Act.put, List.setIfInBounds_toArray, List.set_cons_zero, List.set_cons_succ]
              obtain ⟨o0, o1, o2, of, ol⟩ := row3 HJ.ho
              refine AnyT.last (by kernel_rfl) rfl (by kernel_rfl) (fun K hK => ?_)
              go_simp
              refine hK.out _ _ ?_
              clear hK
              try simp only [Act.put, List.setIfInBounds_toArray, List.set_cons_zero, List.set_cons_succ]
              have h2 := set3 HJ.ho (.slice none 0 0) (.slice B1 s.Bases.length d1) (.slice B2 s.Entries.length d2)
              have HJ := HJ.store h2.2 h2.1 hgo
              go_wp2_with (fail)
              go_meet
              exact ⟨_, B1, B2, d1, d2, S1, S2, rfl, HJ, hgo⟩
        · go_simp
          have hgo := HJ.hg.size
          have HJ := HJ.allocO (cs := #[.slice none 0 0, .slice none 0 0, .slice none 0 0]) (t := 33)
          refine hK.out _ _ ⟨HJ.cell y1, HJ.cell y2⟩ ?_
          clear hK
          generalize World.alloc _ (.cells #[.slice none 0 0, .slice none 0 0, .slice none 0 0] 33) = Wx at HJ ⊢
          try simp only [Act.put, List.setIfInBounds_toArray, List.set_cons_zero, List.set_cons_succ]
          refine AnyT.some1 (i := 3) (by kernel_rfl) rfl (fun K hK => ?_) 
          · refine step_append_hasl (L := s.Bases.length) rfl (.tmp 6) (.tmp 8) elInt flat_int HJ.ha (Ty.up _ hd1 HJ.hg) rfl rfl rfl (Nat.zero_add _).symm (by omega) (by omega) ?_
            intro B1 d1 W1 S1 hon hH hS
            rw [List.nil_append] at hH
            have HJ := HJ.appA hon hH hS
            refine hK.out _ _ ⟨HJ.cell y1, HJ.cell y2⟩ ?_
            clear hK
            try simp only [Act.put, List.setIfInBounds_toArray, List.set_cons_zero, List.set_cons_succ]
            refine AnyT.some1 (i := 7) (by kernel_rfl) rfl (fun K hK => ?_) 
            · refine step_append_hasl (L := s.Entries.length) rfl (.tmp 10) (.tmp 12) elInt flat_int HJ.hb (Ty.up _ hd2 HJ.hg) rfl rfl rfl (Nat.zero_add _).symm (by omega) (by omega) ?_
              intro B2 d2 W2 S2 hon hH hS
              rw [List.nil_append] at hH
              have HJ := HJ.appB hon hH hS
              refine hK.out _ _ ⟨HJ.cell y1, HJ.cell y2⟩ ?_
              clear hK
              try simp only [Act.put, List.setIfInBounds_toArray, List.set_cons_zero, List.set_cons_succ]
              refine AnyT.take (i := 8) (cs := [10]) rfl (by kernel_rfl) (by kernel_rfl) (by kernel_rfl) (by kernel_rfl) rfl (by kernel_rfl) (fun _ _ _ h => h) ⟨HJ.cell y1, HJ.cell y2⟩ (by rfl) (by intro w hSw; (try dsimp only at hSw); go_simp; (try with_reducible rfl)) ?_
              try simp only [Act.put, List.setIfInBounds_toArray, List.set_cons_zero, List.set_cons_succ]
              obtain ⟨o0, o1, o2, of, ol⟩ := row3 HJ.ho
              refine AnyT.last (by kernel_rfl) rfl (by kernel_rfl) (fun K hK => ?_)
              go_simp
              refine hK.out _ _ ?_
              clear hK
              try simp only [Act.put, List.setIfInBounds_toArray, List.set_cons_zero, List.set_cons_succ]
              have h2 := set3 HJ.ho (.slice none 0 0) (.slice B1 s.Bases.length d1) (.slice B2 s.Entries.length d2)
              have HJ := HJ.store h2.2 h2.1 hgo
              go_wp2_with (fail)
              go_meet
              exact ⟨_, B1, B2, d1, d2, S1, S2, rfl, HJ, hgo⟩
      · go_simp
        have hgo := HJ.hg.size
        have HJ := HJ.allocO (cs := #[.slice none 0 0, .slice none 0 0, .slice none 0 0]) (t := 33)
        refine hK.out _ _ ⟨HJ.cell y1, HJ.cell y2⟩ ?_
        clear hK
        generalize World.alloc _ (.cells #[.slice none 0 0, .slice none 0 0, .slice none 0 0] 33) = Wx at HJ ⊢
        try simp only [Act.put, List.setIfInBounds_toArray, List.set_cons_zero, List.set_cons_succ]
        refine AnyT.some2 (i := 3) (j := 4) (by kernel_rfl) rfl rfl (fun K hK => ?_) (fun K hK => ?_) 
        · refine step_append_hasl (L := s.Bases.length) rfl (.tmp 6) (.tmp 8) elInt flat_int HJ.ha (Ty.up _ hd1 HJ.hg) rfl rfl rfl (Nat.zero_add _).symm (by omega) (by omega) ?_
          intro B1 d1 W1 S1 hon hH hS
          rw [List.nil_append] at hH
          have HJ := HJ.appA hon hH hS
          refine hK.out _ _ ⟨HJ.cell y1, HJ.cell y2⟩ ?_
          clear hK
          try simp only [Act.put, List.setIfInBounds_toArray, List.set_cons_zero, List.set_cons_succ]
          refine AnyT.some1 (i := 4) (by kernel_rfl) rfl (fun K hK => ?_) 
          · go_simp
            have HJ := HJ.allocB
            refine hK.out _ _ ⟨HJ.cell y1, HJ.cell y2⟩ ?_
            clear hK
            generalize World.alloc _ (.cells #[] 3) = Wx at HJ ⊢
            try simp only [Act.put, List.setIfInBounds_toArray, List.set_cons_zero, List.set_cons_succ]
            refine AnyT.some1 (i := 7) (by kernel_rfl) rfl (fun K hK => ?_) 
            · refine step_append_hasl (L := s.Entries.length) rfl (.tmp 10) (.tmp 12) elInt flat_int HJ.hb (Ty.up _ hd2 HJ.hg) rfl rfl rfl (Nat.zero_add _).symm (by omega) (by omega) ?_
              intro B2 d2 W2 S2 hon hH hS
              rw [List.nil_append] at hH
              have HJ := HJ.appB hon hH hS
              refine hK.out _ _ ⟨HJ.cell y1, HJ.cell y2⟩ ?_
              clear hK
              try simp only [Act.put, List.setIfInBounds_toArray, List.set_cons_zero, List.set_cons_succ]
              refine AnyT.take (i := 8) (cs := [10]) rfl (by kernel_rfl) (by kernel_rfl) (by kernel_rfl) (by kernel_rfl) rfl (by kernel_rfl) (fun _ _ _ h => h) ⟨HJ.cell y1, HJ.cell y2⟩ (by rfl) (by intro w hSw; (try dsimp only at hSw); go_simp; (try with_reducible rfl)) ?_
              try simp only [Act.put, List.setIfInBounds_toArray, List.set_cons_zero, List.set_cons_succ]
              obtain ⟨o0, o1, o2, of, ol⟩ := row3 HJ.ho
              refine AnyT.last (by kernel_rfl) rfl (by kernel_rfl) (fun K hK => ?_)
              go_simp
              refine hK.out _ _ ?_
              clear hK
              try simp only [Act.put, List.setIfInBounds_toArray, List.set_cons_zero, List.set_cons_succ]
              have h2 := set3 HJ.ho (.slice none 0 0) (.slice B1 s.Bases.length d1) (.slice B2 s.Entries.length d2)
              have HJ := HJ.store h2.2 h2.1 hgo
              go_wp2_with (fail)
              go_meet
              exact ⟨_, B1, B2, d1, d2, S1, S2, rfl, HJ, hgo⟩
        · go_simp
          have HJ := HJ.allocB
          refine hK.out _ _ ⟨HJ.cell y1, HJ.cell y2⟩ ?_
          clear hK
          generalize World.alloc _ (.cells #[] 3) = Wx at HJ ⊢
          try simp only [Act.put, List.setIfInBounds_toArray, List.set_cons_zero, List.set_cons_succ]
          refine AnyT.some1 (i := 3) (by kernel_rfl) rfl (fun K hK => ?_) 
          · refine step_append_hasl (L := s.Bases.length) rfl (.tmp 6) (.tmp 8) elInt flat_int HJ.ha (Ty.up _ hd1 HJ.hg) rfl rfl rfl (Nat.zero_add _).symm (by omega) (by omega) ?_
            intro B1 d1 W1 S1 hon hH hS
            rw [List.nil_append] at hH
            have HJ := HJ.appA hon hH hS
            refine hK.out _ _ ⟨HJ.cell y1, HJ.cell y2⟩ ?_
            clear hK
            try simp only [Act.put, List.setIfInBounds_toArray, List.set_cons_zero, List.set_cons_succ]
            refine AnyT.some1 (i := 7) (by kernel_rfl) rfl (fun K hK => ?_) 
            · refine step_append_hasl (L := s.Entries.length) rfl (.tmp 10) (.tmp 12) elInt flat_int HJ.hb (Ty.up _ hd2 HJ.hg) rfl rfl rfl (Nat.zero_add _).symm (by omega) (by omega) ?_
              intro B2 d2 W2 S2 hon hH hS
              rw [List.nil_append] at hH
              have HJ := HJ.appB hon hH hS
              refine hK.out _ _ ⟨HJ.cell y1, HJ.cell y2⟩ ?_
              clear hK
              try simp only [Act.put, List.setIfInBounds_toArray, List.set_cons_zero, List.set_cons_succ]
              refine AnyT.take (i := 8) (cs := [10]) rfl (by kernel_rfl) (by kernel_rfl) (by kernel_rfl) (by kernel_rfl) rfl (by kernel_rfl) (fun _ _ _ h => h) ⟨HJ.cell y1, HJ.cell y2⟩ (by rfl) (by intro w hSw; (try dsimp only at hSw); go_simp; (try with_reducible rfl)) ?_
              try simp only [Act.put, List.setIfInBounds_toArray, List.set_cons_zero, List.set_cons_succ]
              obtain ⟨o0, o1, o2, of, ol⟩ := row3 HJ.ho
              refine AnyT.last (by kernel_rfl) rfl (by kernel_rfl) (fun K hK => ?_)
              go_simp
              refine hK.out _ _ ?_
              clear hK
              try simp only [Act.put, List.setIfInBounds_toArray, List.set_cons_zero, List.set_cons_succ]
              have h2 := set3 HJ.ho (.slice none 0 0) (.slice B1 s.Bases.length d1) (.slice B2 s.Entries.length d2)
              have HJ := HJ.store h2.2 h2.1 hgo
              go_wp2_with (fail)
              go_meet
              exact ⟨_, B1, B2, d1, d2, S1, S2, rfl, HJ, hgo⟩
    · go_simp
      have HJ := HJ.allocB
      refine hK.out _ _ ⟨HJ.cell y1, HJ.cell y2⟩ ?_
      clear hK
      generalize World.alloc _ (.cells #[] 3) = Wx at HJ ⊢
      try simp only [Act.put, List.setIfInBounds_toArray, List.set_cons_zero, List.set_cons_succ]
      refine AnyT.some2 (i := 0) (j := 9) (by kernel_rfl) rfl rfl (fun K hK => ?_) (fun K hK => ?_) 
      · go_simp
        have HJ := HJ.allocA
        refine hK.out _ _ ⟨HJ.cell y1, HJ.cell y2⟩ ?_
        clear hK
        generalize World.alloc _ (.cells #[] 3) = Wx at HJ ⊢
        try simp only [Act.put, List.setIfInBounds_toArray, List.set_cons_zero, List.set_cons_succ]
        refine AnyT.some2 (i := 3) (j := 9) (by kernel_rfl) rfl rfl (fun K hK => ?_) (fun K hK => ?_) 
        · refine step_append_hasl (L := s.Bases.length) rfl (.tmp 6) (.tmp 8) elInt flat_int HJ.ha (Ty.up _ hd1 HJ.hg) rfl rfl rfl (Nat.zero_add _).symm (by omega) (by omega) ?_
          intro B1 d1 W1 S1 hon hH hS
          rw [List.nil_append] at hH
          have HJ := HJ.appA hon hH hS
          refine hK.out _ _ ⟨HJ.cell y1, HJ.cell y2⟩ ?_
          clear hK
          try simp only [Act.put, List.setIfInBounds_toArray, List.set_cons_zero, List.set_cons_succ]
          refine AnyT.some2 (i := 7) (j := 9) (by kernel_rfl) rfl rfl (fun K hK => ?_) (fun K hK => ?_) 
          · refine step_append_hasl (L := s.Entries.length) rfl (.tmp 10) (.tmp 12) elInt flat_int HJ.hb (Ty.up _ hd2 HJ.hg) rfl rfl rfl (Nat.zero_add _).symm (by omega) (by omega) ?_
            intro B2 d2 W2 S2 hon hH hS
            rw [List.nil_append] at hH
            have HJ := HJ.appB hon hH hS
            refine hK.out _ _ ⟨HJ.cell y1, HJ.cell y2⟩ ?_
            clear hK
            try simp only [Act.put, List.setIfInBounds_toArray, List.set_cons_zero, List.set_cons_succ]
            refine AnyT.take (i := 8) (cs := [10]) rfl (by kernel_rfl) (by kernel_rfl) (by kernel_rfl) (by kernel_rfl) rfl (by kernel_rfl) (fun _ _ _ h => h) ⟨HJ.cell y1, HJ.cell y2⟩ (by rfl) (by intro w hSw; (try dsimp only at hSw); go_simp; (try with_reducible rfl)) ?_
            try simp only [Act.put, List.setIfInBounds_toArray, List.set_cons_zero, List.set_cons_succ]
            refine AnyT.some1 (i := 9) (by kernel_rfl) rfl (fun K hK => ?_) 
            · go_simp
              have hgo := HJ.hg.size
              have HJ := HJ.allocO (cs := #[.slice none 0 0, .slice none 0 0, .slice none 0 0]) (t := 33)
              refine hK.out _ _ ⟨HJ.cell y1, HJ.cell y2⟩ ?_
              clear hK
              generalize World.alloc _ (.cells #[.slice none 0 0, .slice none 0 0, .slice none 0 0] 33) = Wx at HJ ⊢
              try simp only [Act.put, List.setIfInBounds_toArray, List.set_cons_zero, List.set_cons_succ]
              obtain ⟨o0, o1, o2, of, ol⟩ := row3 HJ.ho
              refine AnyT.last (by kernel_rfl) rfl (by kernel_rfl) (fun K hK => ?_)
              go_simp
              refine hK.out _ _ ?_
              clear hK
              try simp only [Act.put, List.setIfInBounds_toArray, List.set_cons_zero, List.set_cons_succ]
              have h2 := set3 HJ.ho (.slice none 0 0) (.slice B1 s.Bases.length d1) (.slice B2 s.Entries.length d2)
              have HJ := HJ.store h2.2 h2.1 hgo
              go_wp2_with (fail)
              go_meet
              exact ⟨_, B1, B2, d1, d2, S1, S2, rfl, HJ, hgo⟩
          · go_simp
            have hgo := HJ.hg.size
            have HJ := HJ.allocO (cs := #[.slice none 0 0, .slice none 0 0, .slice none 0 0]) (t := 33)
            refine hK.out _ _ ⟨HJ.cell y1, HJ.cell y2⟩ ?_
            clear hK
            generalize World.alloc _ (.cells #[.slice none 0 0, .slice none 0 0, .slice none 0 0] 33) = Wx at HJ ⊢
            try simp only [Act.put, List.setIfInBounds_toArray, List.set_cons_zero, List.set_cons_succ]
            refine AnyT.some1 (i := 7) (by kernel_rfl) rfl (fun K hK => ?_) 
            · refine step_append_hasl (L := s.Entries.length) rfl (.tmp 10) (.tmp 12) elInt flat_int HJ.hb (Ty.up _ hd2 HJ.hg) rfl rfl rfl (Nat.zero_add _).symm (by omega) (by omega) ?_
              intro B2 d2 W2 S2 hon hH hS
              rw [List.nil_append] at hH
              have HJ := HJ.appB hon hH hS
              refine hK.out _ _ ⟨HJ.cell y1, HJ.cell y2⟩ ?_
              clear hK
              try simp only [Act.put, List.setIfInBounds_toArray, List.set_cons_zero, List.set_cons_succ]
              refine AnyT.take (i := 8) (cs := [10]) rfl (by kernel_rfl) (by kernel_rfl) (by kernel_rfl) (by kernel_rfl) rfl (by kernel_rfl) (fun _ _ _ h => h) ⟨HJ.cell y1, HJ.cell y2⟩ (by rfl) (by intro w hSw; (try dsimp only at hSw); go_simp; (try with_reducible rfl)) ?_
              try simp only [Act.put, List.setIfInBounds_toArray, List.set_cons_zero, List.set_cons_succ]
              obtain ⟨o0, o1, o2, of, ol⟩ := row3 HJ.ho
              refine AnyT.last (by kernel_rfl) rfl (by kernel_rfl) (fun K hK => ?_)
              go_simp
              refine hK.out _ _ ?_
              clear hK
              try simp only [Act.put, List.setIfInBounds_toArray, List.set_cons_zero, List.set_cons_succ]
              have h2 := set3 HJ.ho (.slice none 0 0) (.slice B1 s.Bases.length d1) (.slice B2 s.Entries.length d2)
              have HJ := HJ.store h2.2 h2.1 hgo
              go_wp2_with (fail)
              go_meet
              exact ⟨_, B1, B2, d1, d2, S1, S2, rfl, HJ, hgo⟩
        · go_simp
          have hgo := HJ.hg.size
          have HJ := HJ.allocO (cs := #[.slice none 0 0, .slice none 0 0, .slice none 0 0]) (t := 33)
          refine hK.out _ _ ⟨HJ.cell y1, HJ.cell y2⟩ ?_
          clear hK
          generalize World.alloc _ (.cells #[.slice none 0 0, .slice none 0 0, .slice none 0 0] 33) = Wx at HJ ⊢
          try simp only [Act.put, List.setIfInBounds_toArray, List.set_cons_zero, List.set_cons_succ]
          refine AnyT.some1 (i := 3) (by kernel_rfl) rfl (fun K hK => ?_) 
          · refine step_append_hasl (L := s.Bases.length) rfl (.tmp 6) (.tmp 8) elInt flat_int HJ.ha (Ty.up _ hd1 HJ.hg) rfl rfl rfl (Nat.zero_add _).symm (by omega) (by omega) ?_
            intro B1 d1 W1 S1 hon hH hS
            rw [List.nil_append] at hH
            have HJ := HJ.appA hon hH hS
            refine hK.out _ _ ⟨HJ.cell y1, HJ.cell y2⟩ ?_
            clear hK
            try simp only [Act.put, List.setIfInBounds_toArray, List.set_cons_zero, List.set_cons_succ]
            refine AnyT.some1 (i := 7) (by kernel_rfl) rfl (fun K hK => ?_) 
            · refine step_append_hasl (L := s.Entries.length) rfl (.tmp 10) (.tmp 12) elInt flat_int HJ.hb (Ty.up _ hd2 HJ.hg) rfl rfl rfl (Nat.zero_add _).symm (by omega) (by omega) ?_
              intro B2 d2 W2 S2 hon hH hS
              rw [List.nil_append] at hH
              have HJ := HJ.appB hon hH hS
              refine hK.out _ _ ⟨HJ.cell y1, HJ.cell y2⟩ ?_
              clear hK
              try simp only [Act.put, List.setIfInBounds_toArray, List.set_cons_zero, List.set_cons_succ]
              refine AnyT.take (i := 8) (cs := [10]) rfl (by kernel_rfl) (by kernel_rfl) (by kernel_rfl) (by kernel_rfl) rfl (by kernel_rfl) (fun _ _ _ h => h) ⟨HJ.cell y1, HJ.cell y2⟩ (by rfl) (by intro w hSw; (try dsimp only at hSw); go_simp; (try with_reducible rfl)) ?_
              try simp only [Act.put, List.setIfInBounds_toArray, List.set_cons_zero, List.set_cons_succ]
              obtain ⟨o0, o1, o2, of, ol⟩ := row3 HJ.ho
              refine AnyT.last (by kernel_rfl) rfl (by kernel_rfl) (fun K hK => ?_)
              go_simp
              refine hK.out _ _ ?_
              clear hK
              try simp only [Act.put, List.setIfInBounds_toArray, List.set_cons_zero, List.set_cons_succ]
              have h2 := set3 HJ.ho (.slice none 0 0) (.slice B1 s.Bases.length d1) (.slice B2 s.Entries.length d2)
              have HJ := HJ.store h2.2 h2.1 hgo
              go_wp2_with (fail)
              go_meet
              exact ⟨_, B1, B2, d1, d2, S1, S2, rfl, HJ, hgo⟩
      · go_simp
        have hgo := HJ.hg.size
        have HJ := HJ.allocO (cs := #[.slice none 0 0, .slice none 0 0, .slice none 0 0]) (t := 33)
        refine hK.out _ _ ⟨HJ.cell y1, HJ.cell y2⟩ ?_
        clear hK
        generalize World.alloc _ (.cells #[.slice none 0 0, .slice none 0 0, .slice none 0 0] 33) = Wx at HJ ⊢
        try simp only [Act.put, List.setIfInBounds_toArray, List.set_cons_zero, List.set_cons_succ]
        refine AnyT.some1 (i := 0) (by kernel_rfl) rfl (fun K hK => ?_) 
        · go_simp
          have HJ := HJ.allocA
          refine hK.out _ _ ⟨HJ.cell y1, HJ.cell y2⟩ ?_
          clear hK
          generalize World.alloc _ (.cells #[] 3) = Wx at HJ ⊢
          try simp only [Act.put, List.setIfInBounds_toArray, List.set_cons_zero, List.set_cons_succ]
          refine AnyT.some1 (i := 3) (by kernel_rfl) rfl (fun K hK => ?_) 
          · refine step_append_hasl (L := s.Bases.length) rfl (.tmp 6) (.tmp 8) elInt flat_int HJ.ha (Ty.up _ hd1 HJ.hg) rfl rfl rfl (Nat.zero_add _).symm (by omega) (by omega) ?_
            intro B1 d1 W1 S1 hon hH hS
            rw [List.nil_append] at hH
            have HJ := HJ.appA hon hH hS
            refine hK.out _ _ ⟨HJ.cell y1, HJ.cell y2⟩ ?_
            clear hK
            try simp only [Act.put, List.setIfInBounds_toArray, List.set_cons_zero, List.set_cons_succ]
            refine AnyT.some1 (i := 7) (by kernel_rfl) rfl (fun K hK => ?_) 
            · refine step_append_hasl (L := s.Entries.length) rfl (.tmp 10) (.tmp 12) elInt flat_int HJ.hb (Ty.up _ hd2 HJ.hg) rfl rfl rfl (Nat.zero_add _).symm (by omega) (by omega) ?_
              intro B2 d2 W2 S2 hon hH hS
              rw [List.nil_append] at hH
              have HJ := HJ.appB hon hH hS
              refine hK.out _ _ ⟨HJ.cell y1, HJ.cell y2⟩ ?_
              clear hK
              try simp only [Act.put, List.setIfInBounds_toArray, List.set_cons_zero, List.set_cons_succ]
              refine AnyT.take (i := 8) (cs := [10]) rfl (by kernel_rfl) (by kernel_rfl) (by kernel_rfl) (by kernel_rfl) rfl (by kernel_rfl) (fun _ _ _ h => h) ⟨HJ.cell y1, HJ.cell y2⟩ (by rfl) (by intro w hSw; (try dsimp only at hSw); go_simp; (try with_reducible rfl)) ?_
              try simp only [Act.put, List.setIfInBounds_toArray, List.set_cons_zero, List.set_cons_succ]
              obtain ⟨o0, o1, o2, of, ol⟩ := row3 HJ.ho
              refine AnyT.last (by kernel_rfl) rfl (by kernel_rfl) (fun K hK => ?_)
              go_simp
              refine hK.out _ _ ?_
              clear hK
              try simp only [Act.put, List.setIfInBounds_toArray, List.set_cons_zero, List.set_cons_succ]
              have h2 := set3 HJ.ho (.slice none 0 0) (.slice B1 s.Bases.length d1) (.slice B2 s.Entries.length d2)
              have HJ := HJ.store h2.2 h2.1 hgo
              go_wp2_with (fail)
              go_meet
              exact ⟨_, B1, B2, d1, d2, S1, S2, rfl, HJ, hgo⟩
    · go_simp
      have hgo := HJ.hg.size
      have HJ := HJ.allocO (cs := #[.slice none 0 0, .slice none 0 0, .slice none 0 0]) (t := 33)
      refine hK.out _ _ ⟨HJ.cell y1, HJ.cell y2⟩ ?_
      clear hK
      generalize World.alloc _ (.cells #[.slice none 0 0, .slice none 0 0, .slice none 0 0] 33) = Wx at HJ ⊢
      try simp only [Act.put, List.setIfInBounds_toArray, List.set_cons_zero, List.set_cons_succ]
      refine AnyT.some2 (i := 0) (j := 4) (by kernel_rfl) rfl rfl (fun K hK => ?_) (fun K hK => ?_) 
      · go_simp
        have HJ := HJ.allocA
        refine hK.out _ _ ⟨HJ.cell y1, HJ.cell y2⟩ ?_
        clear hK
        generalize World.alloc _ (.cells #[] 3) = Wx at HJ ⊢
        try simp only [Act.put, List.setIfInBounds_toArray, List.set_cons_zero, List.set_cons_succ]
        refine AnyT.some2 (i := 3) (j := 4) (by kernel_rfl) rfl rfl (fun K hK => ?_) (fun K hK => ?_) 
        · refine step_append_hasl (L := s.Bases.length) rfl (.tmp 6) (.tmp 8) elInt flat_int HJ.ha (Ty.up _ hd1 HJ.hg) rfl rfl rfl (Nat.zero_add _).symm (by omega) (by omega) ?_
          intro B1 d1 W1 S1 hon hH hS
          rw [List.nil_append] at hH
          have HJ := HJ.appA hon hH hS
          refine hK.out _ _ ⟨HJ.cell y1, HJ.cell y2⟩ ?_
          clear hK
          try simp only [Act.put, List.setIfInBounds_toArray, List.set_cons_zero, List.set_cons_succ]
          refine AnyT.some1 (i := 4) (by kernel_rfl) rfl (fun K hK => ?_) 
          · go_simp
            have HJ := HJ.allocB
            refine hK.out _ _ ⟨HJ.cell y1, HJ.cell y2⟩ ?_
            clear hK
            generalize World.alloc _ (.cells #[] 3) = Wx at HJ ⊢
            try simp only [Act.put, List.setIfInBounds_toArray, List.set_cons_zero, List.set_cons_succ]
            refine AnyT.some1 (i := 7) (by kernel_rfl) rfl (fun K hK => ?_) 
            · refine step_append_hasl (L := s.Entries.length) rfl (.tmp 10) (.tmp 12) elInt flat_int HJ.hb (Ty.up _ hd2 HJ.hg) rfl rfl rfl (Nat.zero_add _).symm (by omega) (by omega) ?_
              intro B2 d2 W2 S2 hon hH hS
              rw [List.nil_append] at hH
              have HJ := HJ.appB hon hH hS
              refine hK.out _ _ ⟨HJ.cell y1, HJ.cell y2⟩ ?_
              clear hK
              try simp only [Act.put, List.setIfInBounds_toArray, List.set_cons_zero, List.set_cons_succ]
              refine AnyT.take (i := 8) (cs := [10]) rfl (by kernel_rfl) (by kernel_rfl) (by kernel_rfl) (by kernel_rfl) rfl (by kernel_rfl) (fun _ _ _ h => h) ⟨HJ.cell y1, HJ.cell y2⟩ (by rfl) (by intro w hSw; (try dsimp only at hSw); go_simp; (try with_reducible rfl)) ?_
              try simp only [Act.put, List.setIfInBounds_toArray, List.set_cons_zero, List.set_cons_succ]
              obtain ⟨o0, o1, o2, of, ol⟩ := row3 HJ.ho
              refine AnyT.last (by kernel_rfl) rfl (by kernel_rfl) (fun K hK => ?_)
              go_simp
              refine hK.out _ _ ?_
              clear hK
              try simp only [Act.put, List.setIfInBounds_toArray, List.set_cons_zero, List.set_cons_succ]
              have h2 := set3 HJ.ho (.slice none 0 0) (.slice B1 s.Bases.length d1) (.slice B2 s.Entries.length d2)
              have HJ := HJ.store h2.2 h2.1 hgo
              go_wp2_with (fail)
              go_meet
              exact ⟨_, B1, B2, d1, d2, S1, S2, rfl, HJ, hgo⟩
        · go_simp
          have HJ := HJ.allocB
          refine hK.out _ _ ⟨HJ.cell y1, HJ.cell y2⟩ ?_
          clear hK
          generalize World.alloc _ (.cells #[] 3) = Wx at HJ ⊢
          try simp only [Act.put, List.setIfInBounds_toArray, List.set_cons_zero, List.set_cons_succ]
          refine AnyT.some1 (i := 3) (by kernel_rfl) rfl (fun K hK => ?_) 
          · refine step_append_hasl (L := s.Bases.length) rfl (.tmp 6) (.tmp 8) elInt flat_int HJ.ha (Ty.up _ hd1 HJ.hg) rfl rfl rfl (Nat.zero_add _).symm (by omega) (by omega) ?_
            intro B1 d1 W1 S1 hon hH hS
            rw [List.nil_append] at hH
            have HJ := HJ.appA hon hH hS
            refine hK.out _ _ ⟨HJ.cell y1, HJ.cell y2⟩ ?_
            clear hK
            try simp only [Act.put, List.setIfInBounds_toArray, List.set_cons_zero, List.set_cons_succ]
            refine AnyT.some1 (i := 7) (by kernel_rfl) rfl (fun K hK => ?_) 
            · refine step_append_hasl (L := s.Entries.length) rfl (.tmp 10) (.tmp 12) elInt flat_int HJ.hb (Ty.up _ hd2 HJ.hg) rfl rfl rfl (Nat.zero_add _).symm (by omega) (by omega) ?_
              intro B2 d2 W2 S2 hon hH hS
              rw [List.nil_append] at hH
              have HJ := HJ.appB hon hH hS
              refine hK.out _ _ ⟨HJ.cell y1, HJ.cell y2⟩ ?_
              clear hK
              try simp only [Act.put, List.setIfInBounds_toArray, List.set_cons_zero, List.set_cons_succ]
              refine AnyT.take (i := 8) (cs := [10]) rfl (by kernel_rfl) (by kernel_rfl) (by kernel_rfl) (by kernel_rfl) rfl (by kernel_rfl) (fun _ _ _ h => h) ⟨HJ.cell y1, HJ.cell y2⟩ (by rfl) (by intro w hSw; (try dsimp only at hSw); go_simp; (try with_reducible rfl)) ?_
              try simp only [Act.put, List.setIfInBounds_toArray, List.set_cons_zero, List.set_cons_succ]
              obtain ⟨o0, o1, o2, of, ol⟩ := row3 HJ.ho
              refine AnyT.last (by kernel_rfl) rfl (by kernel_rfl) (fun K hK => ?_)
              go_simp
              refine hK.out _ _ ?_
              clear hK
              try simp only [Act.put, List.setIfInBounds_toArray, List.set_cons_zero, List.set_cons_succ]
              have h2 := set3 HJ.ho (.slice none 0 0) (.slice B1 s.Bases.length d1) (.slice B2 s.Entries.length d2)
              have HJ := HJ.store h2.2 h2.1 hgo
              go_wp2_with (fail)
              go_meet
              exact ⟨_, B1, B2, d1, d2, S1, S2, rfl, HJ, hgo⟩
      · go_simp
        have HJ := HJ.allocB
        refine hK.out _ _ ⟨HJ.cell y1, HJ.cell y2⟩ ?_
        clear hK
        generalize World.alloc _ (.cells #[] 3) = Wx at HJ ⊢
        try simp only [Act.put, List.setIfInBounds_toArray, List.set_cons_zero, List.set_cons_succ]
        refine AnyT.some1 (i := 0) (by kernel_rfl) rfl (fun K hK => ?_) 
        · go_simp
          have HJ := HJ.allocA
          refine hK.out _ _ ⟨HJ.cell y1, HJ.cell y2⟩ ?_
          clear hK
          generalize World.alloc _ (.cells #[] 3) = Wx at HJ ⊢
          try simp only [Act.put, List.setIfInBounds_toArray, List.set_cons_zero, List.set_cons_succ]
          refine AnyT.some1 (i := 3) (by kernel_rfl) rfl (fun K hK => ?_) 
          · refine step_append_hasl (L := s.Bases.length) rfl (.tmp 6) (.tmp 8) elInt flat_int HJ.ha (Ty.up _ hd1 HJ.hg) rfl rfl rfl (Nat.zero_add _).symm (by omega) (by omega) ?_
            intro B1 d1 W1 S1 hon hH hS
            rw [List.nil_append] at hH
            have HJ := HJ.appA hon hH hS
            refine hK.out _ _ ⟨HJ.cell y1, HJ.cell y2⟩ ?_
            clear hK
            try simp only [Act.put, List.setIfInBounds_toArray, List.set_cons_zero, List.set_cons_succ]
            refine AnyT.some1 (i := 7) (by kernel_rfl) rfl (fun K hK => ?_) 
            · refine step_append_hasl (L := s.Entries.length) rfl (.tmp 10) (.tmp 12) elInt flat_int HJ.hb (Ty.up _ hd2 HJ.hg) rfl rfl rfl (Nat.zero_add _).symm (by omega) (by omega) ?_
              intro B2 d2 W2 S2 hon hH hS
              rw [List.nil_append] at hH
              have HJ := HJ.appB hon hH hS
              refine hK.out _ _ ⟨HJ.cell y1, HJ.cell y2⟩ ?_
              clear hK
              try simp only [Act.put, List.setIfInBounds_toArray, List.set_cons_zero, List.set_cons_succ]
              refine AnyT.take (i := 8) (cs := [10]) rfl (by kernel_rfl) (by kernel_rfl) (by kernel_rfl) (by kernel_rfl) rfl (by kernel_rfl) (fun _ _ _ h => h) ⟨HJ.cell y1, HJ.cell y2⟩ (by rfl) (by intro w hSw; (try dsimp only at hSw); go_simp; (try with_reducible rfl)) ?_
              try simp only [Act.put, List.setIfInBounds_toArray, List.set_cons_zero, List.set_cons_succ]
              obtain ⟨o0, o1, o2, of, ol⟩ := row3 HJ.ho
              refine AnyT.last (by kernel_rfl) rfl (by kernel_rfl) (fun K hK => ?_)
              go_simp
              refine hK.out _ _ ?_
              clear hK
              try simp only [Act.put, List.setIfInBounds_toArray, List.set_cons_zero, List.set_cons_succ]
              have h2 := set3 HJ.ho (.slice none 0 0) (.slice B1 s.Bases.length d1) (.slice B2 s.Entries.length d2)
              have HJ := HJ.store h2.2 h2.1 hgo
              go_wp2_with (fail)
              go_meet
              exact ⟨_, B1, B2, d1, d2, S1, S2, rfl, HJ, hgo⟩
  case rest =>
    obtain ⟨g3, B1, B2, d1, d2, S1, S2, rfl, HJ, hgo⟩ := hcut
    have hgg3 : g ≠ g3 := by omega
    have hl3 := (Array.getElem?_eq_some_iff.1 HJ.ho).1
    have hlI : s.Images.length ≤ 1099511627776 := by unfold szSpace szL at hs; omega
    have c0w := HJ.cell y0
    go_wp2_with (fail)
    go_loopw [18] (fun z wr => ∃ (j : Nat) (A : Option Addr) (c : Nat) (S : List Nat), z = .int .i64 j ∧ j ≤ s.Images.length ∧ Hid (OnlyS [g3] wc wr) ∧ Hid (wr.heap[g3]? = some (.cells #[.slice A j c, .slice B1 s.Bases.length d1, .slice B2 s.Entries.length d2] 33 (0, 0))) ∧ Hid (Has (tImage.sl 96) wr [.slice A j c] (s.Images.take j) S) ∧ Hid (∀ b ∈ S, wc.heap.size ≤ b)) (fun z _ => s.Images.length - (intOf z).toNat)
    case atStart => exact ⟨0, none, 0, [], rfl, Nat.zero_le _, Lib.hid (OnlyS.refl _ _), Lib.hid HJ.ho, Lib.hid (Has.nil _ _ _), Lib.hid (by simp)⟩
    case round =>
      obtain ⟨j, A, c, S, rfl, hj, ho, hb, hH, hS⟩ := hrel
      have hGr : Gro Y wr := ho.out.gro HJ.hg (fun b hb => by simp at hb; omega)
      have hwl : wc.heap.size ≤ wr.heap.size := ho.out.size
      have k0 := gcell hGr y0
      obtain ⟨o0, o1, o2, of, ol⟩ := row3 hb.out
      obtain ⟨z0, z1, z2, zf, zl2⟩ := row3 (grow_blk er hGr)
      by_cases hlt : j < s.Images.length
      · have hdw := hd0
        obtain ⟨gI, off, x, Ax, cx, rfl, hgI, hxk, m0, m1, p0, hsy⟩ := atImage hdw hlt
        have n0 := gcell hGr m0
        have n1 := gcell hGr m1
        have hsy2 := Ty.up _ hsy hGr
        have hki : (j : Int) < (s.Images.length : Int) := by omega
        have hxl : x.Symbols.length ≤ 1099511627776 := by have h2 : x.Symbols.length ≤ szImage x := (by unfold szImage szL; omega); have h1 := szL_elem szImage hxk; unfold szSpace at hs; omega
        have hgI3 : gI ≠ g3 := by omega
        go_upto_region 5 with (fail)
        have hGV : Gro wr (wr.alloc (.cells #[.string x.Code, .slice Ax x.Symbols.length cx] 96)) := (by repeat (first | with_reducible exact Gro.refl _ | with_reducible exact Gro.refl_drew _ _ _ | with_reducible exact Gro.refl_drewN _ _ _ _ | assumption | with_reducible apply Gro.more | with_reducible apply Gro.alloc | with_reducible apply Gro.drew | with_reducible apply Gro.drewN))
        have eV : (wr.alloc (.cells #[.string x.Code, .slice Ax x.Symbols.length cx] 96)).heap[wr.heap.size]? = some (.cells #[.string x.Code, .slice Ax x.Symbols.length cx] 96 (0, 0)) := heap_alloc_new _ _
        obtain ⟨b5, hb5⟩ : ∃ b5, wr.heap.size = b5 := ⟨_, rfl⟩
        rw [hb5] at eV ⊢
        generalize wr.alloc (.cells #[.string x.Code, .slice Ax x.Symbols.length cx] 96) = V at hGV eV ⊢
        have hbV := grow_blk hb.out hGV
        have hHV := hH.out.gro hGV
        have hsyV := Ty.up _ hsy2 hGV
        obtain ⟨v0, v1, _, _, vl⟩ := box2 eV
        clear o0 o1 o2 of ol
        obtain ⟨o0, o1, o2, of, ol⟩ := row3 hbV
        have hVg3 : g3 ≠ V.heap.size := by omega
        have hVb5 : b5 ≠ V.heap.size := by omega
        refine region_T (fun w' => w'.cell? ⟨g3, 0, none⟩ = some (.slice A j c) ∧ w'.cell? ⟨b5, 0, none⟩ = some (.string x.Code) ∧ w'.cell? ⟨b5, 1, none⟩ = some (.slice Ax x.Symbols.length cx)) 12 (by kernel_rfl) (And.intro (drew_keeps o0) (And.intro (drew_keeps v0) (drew_keeps v1))) (fun hS9 => ?_)
        refine AnyT.take (i := 0) (cs := [12]) rfl (by kernel_rfl) (by kernel_rfl) (by kernel_rfl) (by kernel_rfl) rfl (by kernel_rfl) (fun _ _ _ h => h) hS9 (by rfl) (by intro w hSw; (try dsimp only at hSw); go_simp; (try with_reducible rfl)) ?_
        try simp only [Act.put, List.setIfInBounds_toArray, List.set_cons_zero, List.set_cons_succ]
        refine AnyT.take (i := 1) (cs := [12]) rfl (by kernel_rfl) (by kernel_rfl) (by kernel_rfl) (by kernel_rfl) rfl (by kernel_rfl) (fun _ _ _ h => h) hS9 (by rfl) (by intro w hSw; (try dsimp only at hSw); go_simp; (try with_reducible rfl)) ?_
        try simp only [Act.put, List.setIfInBounds_toArray, List.set_cons_zero, List.set_cons_succ]
        refine AnyT.take (i := 2) (cs := [12]) rfl (by kernel_rfl) (by kernel_rfl) (by kernel_rfl) (by kernel_rfl) rfl (by kernel_rfl) (fun _ _ _ h => h) hS9 (by rfl) (by intro w hSw; (try dsimp only at hSw); go_simp; (try with_reducible rfl)) ?_
        try simp only [Act.put, List.setIfInBounds_toArray, List.set_cons_zero, List.set_cons_succ]
        refine AnyT.take (i := 3) (cs := [12]) rfl (by kernel_rfl) (by kernel_rfl) (by kernel_rfl) (by kernel_rfl) rfl (by kernel_rfl) (fun _ _ _ h => h) hS9 (by rfl) (by intro w hSw; (try dsimp only at hSw); go_simp; (try with_reducible rfl)) ?_
        try simp only [Act.put, List.setIfInBounds_toArray, List.set_cons_zero, List.set_cons_succ]
        refine AnyT.take (i := 5) (cs := [12]) rfl (by kernel_rfl) (by kernel_rfl) (by kernel_rfl) (by kernel_rfl) rfl (by kernel_rfl) (fun _ _ _ h => h) hS9 (by rfl) (by intro w hSw; (try dsimp only at hSw); go_simp; (try with_reducible rfl)) ?_
        try simp only [Act.put, List.setIfInBounds_toArray, List.set_cons_zero, List.set_cons_succ]
        refine AnyT.take (i := 6) (cs := [12]) rfl (by kernel_rfl) (by kernel_rfl) (by kernel_rfl) (by kernel_rfl) rfl (by kernel_rfl) (fun _ _ _ h => h) hS9 (by rfl) (by intro w hSw; (try dsimp only at hSw); go_simp; (try with_reducible rfl)) ?_
        try simp only [Act.put, List.setIfInBounds_toArray, List.set_cons_zero, List.set_cons_succ]
        refine AnyT.some1 (i := 4) (by kernel_rfl) rfl (fun K hK => ?_) 
        · go_simp
          have hS9 := And.intro (alloc_keeps (drew_keeps o0) (.cells #[] 118)) (And.intro (alloc_keeps (drew_keeps v0) (.cells #[] 118)) (alloc_keeps (drew_keeps v1) (.cells #[] 118)))
          refine hK.out _ _ hS9 ?_
          clear hK
          try simp only [Act.put, List.setIfInBounds_toArray, List.set_cons_zero, List.set_cons_succ]
          refine AnyT.some1 (i := 7) (by kernel_rfl) rfl (fun K hK => ?_) 
          · refine step_append_hasl (L := x.Symbols.length) rfl (.tmp 26) (.tmp 28) elSymbol flatSymbol (S := [V.heap.size]) (Has.emp tSymbol (heap_alloc_new _ _)) (Ty.up _ hsyV (by repeat (first | with_reducible exact Gro.refl _ | with_reducible exact Gro.refl_drew _ _ _ | with_reducible exact Gro.refl_drewN _ _ _ _ | assumption | with_reducible apply Gro.more | with_reducible apply Gro.alloc | with_reducible apply Gro.drew | with_reducible apply Gro.drewN))) rfl rfl rfl (Nat.zero_add _).symm (by omega) (by omega) ?_
            intro A6 c6 W6 S6 hon6 hH6 hS6
            rw [List.nil_append] at hH6
            have q0 := keep_thru o0 (by (repeat (first | with_reducible exact Gro.refl _ | with_reducible exact Gro.refl_drew _ _ _ | with_reducible exact Gro.refl_drewN _ _ _ _ | assumption | with_reducible apply Gro.more | with_reducible apply Gro.alloc | with_reducible apply Gro.drew | with_reducible apply Gro.drewN)); done) hon6 (by simpa using hVg3)
            have q1 := keep_thru v0 (by (repeat (first | with_reducible exact Gro.refl _ | with_reducible exact Gro.refl_drew _ _ _ | with_reducible exact Gro.refl_drewN _ _ _ _ | assumption | with_reducible apply Gro.more | with_reducible apply Gro.alloc | with_reducible apply Gro.drew | with_reducible apply Gro.drewN)); done) hon6 (by simpa using hVb5)
            have q2 := keep_thru v1 (by (repeat (first | with_reducible exact Gro.refl _ | with_reducible exact Gro.refl_drew _ _ _ | with_reducible exact Gro.refl_drewN _ _ _ _ | assumption | with_reducible apply Gro.more | with_reducible apply Gro.alloc | with_reducible apply Gro.drew | with_reducible apply Gro.drewN)); done) hon6 (by simpa using hVb5)
            have hGV6 : Gro V W6 := hon6.gro (W0 := V) (by (repeat (first | with_reducible exact Gro.refl _ | with_reducible exact Gro.refl_drew _ _ _ | with_reducible exact Gro.refl_drewN _ _ _ _ | assumption | with_reducible apply Gro.more | with_reducible apply Gro.alloc | with_reducible apply Gro.drew | with_reducible apply Gro.drewN)); done) (fun b hb' => by simp at hb'; omega)
            have hl6 : ∀ b ∈ S6, V.heap.size ≤ b := fun b hb' => by
              rcases hS6 b hb' with h | h
              · simp at h; omega
              · have h9 : V.heap.size + 1 ≤ b := by simpa using h
                omega
            have hS9 := And.intro q0 (And.intro q1 q2)
            refine hK.out _ _ hS9 ?_
            clear hK
            try simp only [Act.put, List.setIfInBounds_toArray, List.set_cons_zero, List.set_cons_succ]
            refine AnyT.take (i := 8) (cs := [12]) rfl (by kernel_rfl) (by kernel_rfl) (by kernel_rfl) (by kernel_rfl) rfl (by kernel_rfl) (fun _ _ _ h => h) hS9 (by rfl) (by intro w hSw; (try dsimp only at hSw); go_simp; (try with_reducible rfl)) ?_
            try simp only [Act.put, List.setIfInBounds_toArray, List.set_cons_zero, List.set_cons_succ]
            refine AnyT.some1 (i := 9) (by kernel_rfl) rfl (fun K hK => ?_) 
            · go_simp
              have hS9 := And.intro (alloc_keeps q0 (.cells #[.string x.Code, .slice A6 x.Symbols.length c6] 96)) (And.intro (alloc_keeps q1 (.cells #[.string x.Code, .slice A6 x.Symbols.length c6] 96)) (alloc_keeps q2 (.cells #[.string x.Code, .slice A6 x.Symbols.length c6] 96)))
              refine hK.out _ _ hS9 ?_
              clear hK
              try simp only [Act.put, List.setIfInBounds_toArray, List.set_cons_zero, List.set_cons_succ]
              refine AnyT.some1 (i := 10) (by kernel_rfl) rfl (fun K hK => ?_) 
              · have hHy : Has tImage (W6.alloc (.cells #[.string x.Code, .slice A6 x.Symbols.length c6] 96)) [.string x.Code, .slice A6 x.Symbols.length c6] x S6 := Has.gro (W := W6) ⟨tImage_mkOd p0 hH6.1, hH6.2⟩ (by (repeat (first | with_reducible exact Gro.refl _ | with_reducible exact Gro.refl_drew _ _ _ | with_reducible exact Gro.refl_drewN _ _ _ _ | assumption | with_reducible apply Gro.more | with_reducible apply Gro.alloc | with_reducible apply Gro.drew | with_reducible apply Gro.drewN)); done)
                have hG9 : Gro wr (W6.alloc (.cells #[.string x.Code, .slice A6 x.Symbols.length c6] 96)) := (hGV.trans hGV6).alloc _
                have hdis : ∀ b ∈ S, b ∉ S6 := fun b hb' hm => by have h1 := hl6 b hm; have h2 := hHV.lt b hb'; omega
                refine step_append_has (L := j + 1) rfl (.tmp 23) (.tmp 31) elImage (hH.out.gro hG9) hHy hdis rfl rfl rfl (by intro j u hu; simpa [go_sem] using hu) rfl (by omega) (by omega) ?_
                intro A7 c7 W7 S7 hon hH7 hS7
                have hgS : ∀ k, k < wc.heap.size → k ∉ S := fun k hk hm => by have := hS.out k hm; omega
                have hb5S : b5 ∉ S := fun hm => by have := hH.out.lt b5 hm; omega
                have e7 := frz_thru hb.out hG9 hon (hgS _ (by omega))
                have hS9 := And.intro (keep_thru (alloc_keeps q0 (.cells #[.string x.Code, .slice A6 x.Symbols.length c6] 96)) (Gro.refl _) hon (hgS _ (by omega))) (And.intro (keep_thru (alloc_keeps q1 (.cells #[.string x.Code, .slice A6 x.Symbols.length c6] 96)) (Gro.refl _) hon hb5S) (keep_thru (alloc_keeps q2 (.cells #[.string x.Code, .slice A6 x.Symbols.length c6] 96)) (Gro.refl _) hon hb5S))
                have hlo : ∀ b ∈ S7, wc.heap.size ≤ b := fun b hb' => by
                  rcases hS7 b hb' with h | h | h
                  · exact hS.out b h
                  · have := hl6 b h
                    have := hGV.size
                    omega
                  · have := hG9.size
                    omega
                have ho9 := only_step ho.out hG9 hon hS.out 0 (.slice A7 (j + 1) c7)
                have hb9 := set_at (i := 0) (v := .slice A7 (j + 1) c7) e7 rfl
                have hH9 := hH7.keep ((OnlyS.refl [g3] W7).setCell (p := ⟨g3, 0, none⟩) (by simp) (.slice A7 (j + 1) c7)) (fun b hb' hm => by have := hlo b hb'; simp at hm; omega)
                refine hK.out _ _ hS9 ?_
                clear hK
                try simp only [Act.put, List.setIfInBounds_toArray, List.set_cons_zero, List.set_cons_succ]
                refine AnyT.take (i := 11) (cs := [12]) rfl (by kernel_rfl) (by kernel_rfl) (by kernel_rfl) (by kernel_rfl) rfl (by kernel_rfl) (fun _ _ _ h => h) hS9 (by rfl) (by intro w hSw; (try dsimp only at hSw); go_simp; (try with_reducible rfl)) ?_
                try simp only [Act.put, List.setIfInBounds_toArray, List.set_cons_zero, List.set_cons_succ]
                obtain ⟨a0, a1, a2, af, al⟩ := row3 e7
                refine AnyT.last (by kernel_rfl) rfl (by kernel_rfl) (fun K hK => ?_)
                go_simp
                refine hK.out _ _ ?_
                clear hK
                try simp only [Act.put, List.setIfInBounds_toArray, List.set_cons_zero, List.set_cons_succ]
                generalize W7.setCell ⟨g3, 0, none⟩ (.slice A7 (j + 1) c7) = X at ho9 hb9 hH9 ⊢
                clear hS9 hon hH7 hS7 e7 hb hH ho
                have htk : s.Images.take j ++ [x] = s.Images.take (j + 1) := by rw [List.take_add_one, hxk]; rfl
                rw [htk] at hH9
                go_wp2_with (fail)
                go_roundw
                case measure => (simp [intOf]; try omega)
                case rel => exact ⟨j + 1, A7, c7, S7, by simp, by omega, Lib.hid ho9, Lib.hid hb9, Lib.hid hH9, Lib.hid hlo⟩
      · obtain rfl : j = s.Images.length := by omega
        have hki : ¬ (s.Images.length : Int) < (s.Images.length : Int) := by omega
        have hHt := hH.out
        rw [List.take_length] at hHt
        go_wp2_with (fail)
        have h9 := set3 (grow_blk er hGr) (.slice A s.Images.length c) (.slice B1 s.Bases.length d1) (.slice B2 s.Entries.length d2)
        obtain ⟨r0, r1, r2, _, _⟩ := row3 h9.1
        have hHI := hHt.keep h9.2 (fun b hb' hm => by have := hS.out b hb'; simp at hm; omega)
        have hHa := (HJ.ha.keep ho.out (fun b hb' hm => by simp at hm; exact HJ.hoa (hm ▸ hb'))).keep h9.2 (fun b hb' hm => by have := HJ.la b hb'; simp at hm; omega)
        have hHb := (HJ.hb.keep ho.out (fun b hb' hm => by simp at hm; exact HJ.hob (hm ▸ hb'))).keep h9.2 (fun b hb' hm => by have := HJ.lb b hb'; simp at hm; omega)
        have hYw : w.heap.size ≤ Y.heap.size := hG0.size
        refine bodyPost_ret (v := .agg #[.slice A s.Images.length c, .slice B1 s.Bases.length d1, .slice B2 s.Entries.length d2]) (by simp [results, Try.results57, go_sem, r0, r1, r2]) rfl ⟨A, c, B1, d1, B2, d2, rfl, ⟨_, tSpace_mkOd hHI.1 hHa.1 hHb.1, ?_, ?_⟩, h9.2.gro (hG0.trans hGr) (fun b hb' => by simp at hb'; omega)⟩
        · refine List.nodup_append.2 ⟨List.nodup_append.2 ⟨hHI.2, hHa.2, fun a ha b hb' he => ?_⟩, hHb.2, fun a ha b hb' he => ?_⟩
          · have h1 := hS.out a ha
            have h2 := HJ.ha.lt b hb'
            omega
          · rcases List.mem_append.1 ha with ha | ha
            · have h1 := hS.out a ha
              have h2 := HJ.hb.lt b hb'
              omega
            · exact HJ.hab a ha (he ▸ hb')
        · intro b hb'
          rcases List.mem_append.1 hb' with hb' | hb'
          · rcases List.mem_append.1 hb' with hb' | hb'
            · have := hS.out b hb'
              omega
            · have := HJ.la b hb'
              omega
          · have := HJ.lb b hb'
            omega

end Go.Proofs.Ytbhobjepjaeffaa
namespace Go.Proofs.Ytbhobjepjaeffaa
open Go.RowKit
theorem leavesSpace {w : World} {B : Nat} {x : DSpace} {A0 : Option Addr} {c0 : Nat} {A1 : Option Addr} {c1 : Nat} {A2 : Option Addr} {c2 : Nat} (h : tSpace.R w B [.slice A0 x.Images.length c0, .slice A1 x.Bases.length c1, .slice A2 x.Entries.length c2] x) : (tImage.sl 96).R w B [.slice A0 x.Images.length c0] x.Images ∧ (intT.sl 3).R w B [.slice A1 x.Bases.length c1] x.Bases ∧ (intT.sl 3).R w B [.slice A2 x.Entries.length c2] x.Entries := by
  obtain ⟨A0', c0', A1', c1', A2', c2', hc, f0, f1, f2⟩ := tSpace_R h
  simp only [List.cons.injEq, Value.slice.injEq, true_and, and_true] at hc
  obtain ⟨⟨rfl, rfl⟩, ⟨rfl, rfl⟩, ⟨rfl, rfl⟩⟩ := hc
  exact ⟨f0, f1, f2⟩
end Go.Proofs.Ytbhobjepjaeffaa
namespace Go.Proofs.Ytbhobjepjaeffaa
open Go.RowKit
set_option maxRecDepth 100000 in
set_option maxHeartbeats 2000000 in
theorem copyProcess_s {x : DProcess} {w : World} {A0 A1 A2 A3 : Option Addr} {c0 c1 c2 c3 : Nat} (h0 : (tImage.sl 96).R w w.heap.size [.slice A0 x.Space.Images.length c0] x.Space.Images) (h1 : (intT.sl 3).R w w.heap.size [.slice A1 x.Space.Bases.length c1] x.Space.Bases)
    (h2 : (intT.sl 3).R w w.heap.size [.slice A2 x.Space.Entries.length c2] x.Space.Entries) (h3 : (tMachine.sl 80).R w w.heap.size [.slice A3 x.Threads.length c3] x.Threads) (ht : I64 x.Turn) (hle : I64 x.Left) (hsl : I64 x.Slice) (hs : szProcess x ≤ 1099511627776) :
    Calls Try.prog 76 #[.agg #[.slice A0 x.Space.Images.length c0, .slice A1 x.Space.Bases.length c1, .slice A2 x.Space.Entries.length c2, .slice A3 x.Threads.length c3, .int .i64 x.Turn, .int .i64 x.Left, .int .i64 x.Slice]] w (RetProcess x w) := by
  have hs2 : szSpace x.Space ≤ 1099511627776 := by unfold szProcess at hs; omega
  have hth : szL szMachine x.Threads ≤ 1099511627776 := by unfold szProcess at hs; omega
  go_enter Try.func76, Try.ntmps76
  go_wp2_with (go_at_call 53; (with_reducible refine (copySpace_s (s := x.Space) (Ty.up _ h0 (by repeat (first | with_reducible exact Gro.refl _ | with_reducible exact Gro.refl_drew _ _ _ | with_reducible exact Gro.refl_drewN _ _ _ _ | assumption | with_reducible apply Gro.more | with_reducible apply Gro.alloc | with_reducible apply Gro.drew | with_reducible apply Gro.drewN))) (Ty.up _ h1 (by repeat (first | with_reducible exact Gro.refl _ | with_reducible exact Gro.refl_drew _ _ _ | with_reducible exact Gro.refl_drewN _ _ _ _ | assumption | with_reducible apply Gro.more | with_reducible apply Gro.alloc | with_reducible apply Gro.drew | with_reducible apply Gro.drewN))) (Ty.up _ h2 (by repeat (first | with_reducible exact Gro.refl _ | with_reducible exact Gro.refl_drew _ _ _ | with_reducible exact Gro.refl_drewN _ _ _ _ | assumption | with_reducible apply Gro.more | with_reducible apply Gro.alloc | with_reducible apply Gro.drew | with_reducible apply Gro.drewN))) hs2).mono ?_); rintro e w1 ⟨B0, d0, B1, d1, B2, d2, rfl, hFs, os1, e1, rfl⟩)
  have hGc : Gro w (gro (((w.alloc (.cells #[.slice A0 x.Space.Images.length c0, .slice A1 x.Space.Bases.length c1, .slice A2 x.Space.Entries.length c2, .slice A3 x.Threads.length c3, .int .i64 x.Turn, .int .i64 x.Left, .int .i64 x.Slice] 36)).alloc (.cells #[.slice none 0 0, .slice none 0 0, .slice none 0 0, .slice none 0 0, .int .i64 0, .int .i64 0, .int .i64 0] 36)).alloc (.cells #[.slice B0 x.Space.Images.length d0, .slice B1 x.Space.Bases.length d1, .slice B2 x.Space.Entries.length d2, .slice none 0 0, .int .i64 x.Turn, .int .i64 x.Left, .int .i64 x.Slice] 36)) os1 e1) := (by repeat (first | with_reducible exact Gro.refl _ | with_reducible exact Gro.refl_drew _ _ _ | with_reducible exact Gro.refl_drewN _ _ _ _ | assumption | with_reducible apply Gro.more | with_reducible apply Gro.alloc | with_reducible apply Gro.drew | with_reducible apply Gro.drewN))
  have eb : (gro (((w.alloc (.cells #[.slice A0 x.Space.Images.length c0, .slice A1 x.Space.Bases.length c1, .slice A2 x.Space.Entries.length c2, .slice A3 x.Threads.length c3, .int .i64 x.Turn, .int .i64 x.Left, .int .i64 x.Slice] 36)).alloc (.cells #[.slice none 0 0, .slice none 0 0, .slice none 0 0, .slice none 0 0, .int .i64 0, .int .i64 0, .int .i64 0] 36)).alloc (.cells #[.slice B0 x.Space.Images.length d0, .slice B1 x.Space.Bases.length d1, .slice B2 x.Space.Entries.length d2, .slice none 0 0, .int .i64 x.Turn, .int .i64 x.Left, .int .i64 x.Slice] 36)) os1 e1).heap[w.heap.size]? = some (.cells #[.slice A0 x.Space.Images.length c0, .slice A1 x.Space.Bases.length c1, .slice A2 x.Space.Entries.length c2, .slice A3 x.Threads.length c3, .int .i64 x.Turn, .int .i64 x.Left, .int .i64 x.Slice] 36 (0, 0)) := grow_blk (heap_alloc_new w _) (by (repeat (first | with_reducible exact Gro.refl _ | with_reducible exact Gro.refl_drew _ _ _ | with_reducible exact Gro.refl_drewN _ _ _ _ | assumption | with_reducible apply Gro.more | with_reducible apply Gro.alloc | with_reducible apply Gro.drew | with_reducible apply Gro.drewN)); done)
  have er : (gro (((w.alloc (.cells #[.slice A0 x.Space.Images.length c0, .slice A1 x.Space.Bases.length c1, .slice A2 x.Space.Entries.length c2, .slice A3 x.Threads.length c3, .int .i64 x.Turn, .int .i64 x.Left, .int .i64 x.Slice] 36)).alloc (.cells #[.slice none 0 0, .slice none 0 0, .slice none 0 0, .slice none 0 0, .int .i64 0, .int .i64 0, .int .i64 0] 36)).alloc (.cells #[.slice B0 x.Space.Images.length d0, .slice B1 x.Space.Bases.length d1, .slice B2 x.Space.Entries.length d2, .slice none 0 0, .int .i64 x.Turn, .int .i64 x.Left, .int .i64 x.Slice] 36)) os1 e1).heap[w.heap.size + 1]? = some (.cells #[.slice none 0 0, .slice none 0 0, .slice none 0 0, .slice none 0 0, .int .i64 0, .int .i64 0, .int .i64 0] 36 (0, 0)) := grow_blk (show ((w.alloc (.cells #[.slice A0 x.Space.Images.length c0, .slice A1 x.Space.Bases.length c1, .slice A2 x.Space.Entries.length c2, .slice A3 x.Threads.length c3, .int .i64 x.Turn, .int .i64 x.Left, .int .i64 x.Slice] 36)).alloc (.cells #[.slice none 0 0, .slice none 0 0, .slice none 0 0, .slice none 0 0, .int .i64 0, .int .i64 0, .int .i64 0] 36)).heap[w.heap.size + 1]? = _ from by have h := heap_alloc_new (w.alloc (.cells #[.slice A0 x.Space.Images.length c0, .slice A1 x.Space.Bases.length c1, .slice A2 x.Space.Entries.length c2, .slice A3 x.Threads.length c3, .int .i64 x.Turn, .int .i64 x.Left, .int .i64 x.Slice] 36)) (.cells #[.slice none 0 0, .slice none 0 0, .slice none 0 0, .slice none 0 0, .int .i64 0, .int .i64 0, .int .i64 0] 36); rw [World.size_alloc] at h; exact h) (by (repeat (first | with_reducible exact Gro.refl _ | with_reducible exact Gro.refl_drew _ _ _ | with_reducible exact Gro.refl_drewN _ _ _ _ | assumption | with_reducible apply Gro.more | with_reducible apply Gro.alloc | with_reducible apply Gro.drew | with_reducible apply Gro.drewN)); done)
  have e8 : (gro (((w.alloc (.cells #[.slice A0 x.Space.Images.length c0, .slice A1 x.Space.Bases.length c1, .slice A2 x.Space.Entries.length c2, .slice A3 x.Threads.length c3, .int .i64 x.Turn, .int .i64 x.Left, .int .i64 x.Slice] 36)).alloc (.cells #[.slice none 0 0, .slice none 0 0, .slice none 0 0, .slice none 0 0, .int .i64 0, .int .i64 0, .int .i64 0] 36)).alloc (.cells #[.slice B0 x.Space.Images.length d0, .slice B1 x.Space.Bases.length d1, .slice B2 x.Space.Entries.length d2, .slice none 0 0, .int .i64 x.Turn, .int .i64 x.Left, .int .i64 x.Slice] 36)) os1 e1).heap[w.heap.size + 1 + 1]? = some (.cells #[.slice B0 x.Space.Images.length d0, .slice B1 x.Space.Bases.length d1, .slice B2 x.Space.Entries.length d2, .slice none 0 0, .int .i64 x.Turn, .int .i64 x.Left, .int .i64 x.Slice] 36 (0, 0)) := grow_blk (show (((w.alloc (.cells #[.slice A0 x.Space.Images.length c0, .slice A1 x.Space.Bases.length c1, .slice A2 x.Space.Entries.length c2, .slice A3 x.Threads.length c3, .int .i64 x.Turn, .int .i64 x.Left, .int .i64 x.Slice] 36)).alloc (.cells #[.slice none 0 0, .slice none 0 0, .slice none 0 0, .slice none 0 0, .int .i64 0, .int .i64 0, .int .i64 0] 36)).alloc (.cells #[.slice B0 x.Space.Images.length d0, .slice B1 x.Space.Bases.length d1, .slice B2 x.Space.Entries.length d2, .slice none 0 0, .int .i64 x.Turn, .int .i64 x.Left, .int .i64 x.Slice] 36)).heap[w.heap.size + 1 + 1]? = _ from by have h := heap_alloc_new ((w.alloc (.cells #[.slice A0 x.Space.Images.length c0, .slice A1 x.Space.Bases.length c1, .slice A2 x.Space.Entries.length c2, .slice A3 x.Threads.length c3, .int .i64 x.Turn, .int .i64 x.Left, .int .i64 x.Slice] 36)).alloc (.cells #[.slice none 0 0, .slice none 0 0, .slice none 0 0, .slice none 0 0, .int .i64 0, .int .i64 0, .int .i64 0] 36)) (.cells #[.slice B0 x.Space.Images.length d0, .slice B1 x.Space.Bases.length d1, .slice B2 x.Space.Entries.length d2, .slice none 0 0, .int .i64 x.Turn, .int .i64 x.Left, .int .i64 x.Slice] 36); rw [World.size_alloc, World.size_alloc] at h; exact h) (by (repeat (first | with_reducible exact Gro.refl _ | with_reducible exact Gro.refl_drew _ _ _ | with_reducible exact Gro.refl_drewN _ _ _ _ | assumption | with_reducible apply Gro.more | with_reducible apply Gro.alloc | with_reducible apply Gro.drew | with_reducible apply Gro.drewN)); done)
  have hF2 := hFs.fre.same (w2 := (gro (((w.alloc (.cells #[.slice A0 x.Space.Images.length c0, .slice A1 x.Space.Bases.length c1, .slice A2 x.Space.Entries.length c2, .slice A3 x.Threads.length c3, .int .i64 x.Turn, .int .i64 x.Left, .int .i64 x.Slice] 36)).alloc (.cells #[.slice none 0 0, .slice none 0 0, .slice none 0 0, .slice none 0 0, .int .i64 0, .int .i64 0, .int .i64 0] 36)).alloc (.cells #[.slice B0 x.Space.Images.length d0, .slice B1 x.Space.Bases.length d1, .slice B2 x.Space.Entries.length d2, .slice none 0 0, .int .i64 x.Turn, .int .i64 x.Left, .int .i64 x.Slice] 36)) os1 e1)) (by repeat (first | with_reducible exact Same.refl _ _ _ | ((with_reducible refine Same.base ?_ ?_) <;> (simp <;> omega)) | ((with_reducible refine Same.more ?_ ?_ _ _); rotate_left; simp <;> omega) | ((with_reducible refine Same.alloc ?_ ?_ _); rotate_left; simp <;> omega) | with_reducible apply Same.drew | with_reducible apply Same.drewN))
  obtain ⟨SS, hHs, hls⟩ := Fresh.has hF2.fresh
  have hls2 : ∀ b ∈ SS, w.heap.size + 1 + 1 < b := fun b hb => by have h := hls b hb; rw [World.size_alloc, World.size_alloc, World.size_alloc] at h; omega
  clear hls hF2 hFs
  obtain ⟨g, hg⟩ : ∃ g, w.heap.size = g := ⟨_, rfl⟩
  rw [hg] at eb er e8 hls2 ⊢
  generalize (gro (((w.alloc (.cells #[.slice A0 x.Space.Images.length c0, .slice A1 x.Space.Bases.length c1, .slice A2 x.Space.Entries.length c2, .slice A3 x.Threads.length c3, .int .i64 x.Turn, .int .i64 x.Left, .int .i64 x.Slice] 36)).alloc (.cells #[.slice none 0 0, .slice none 0 0, .slice none 0 0, .slice none 0 0, .int .i64 0, .int .i64 0, .int .i64 0] 36)).alloc (.cells #[.slice B0 x.Space.Images.length d0, .slice B1 x.Space.Bases.length d1, .slice B2 x.Space.Entries.length d2, .slice none 0 0, .int .i64 x.Turn, .int .i64 x.Left, .int .i64 x.Slice] 36)) os1 e1) = wc at hGc eb er e8 hHs ⊢
  have hl8 := (Array.getElem?_eq_some_iff.1 e8).1
  go_loopw [4] (fun a wr => ∃ (k : Nat) (A : Option Addr) (c : Nat) (S : List Nat), a = .int .i64 k ∧ k ≤ x.Threads.length ∧ Hid (OnlyS [g + 1 + 1] wc wr) ∧ Hid (wr.heap[g + 1 + 1]? = some (.cells #[.slice B0 x.Space.Images.length d0, .slice B1 x.Space.Bases.length d1, .slice B2 x.Space.Entries.length d2, .slice A k c, .int .i64 x.Turn, .int .i64 x.Left, .int .i64 x.Slice] 36 (0, 0))) ∧ Hid (Has (tMachine.sl 80) wr [.slice A k c] (x.Threads.take k) S) ∧ Hid (∀ b ∈ S, wc.heap.size ≤ b)) (fun a _ => x.Threads.length - (intOf a).toNat)
  case atStart => exact ⟨0, none, 0, [], rfl, Nat.zero_le _, Lib.hid (OnlyS.refl _ _), Lib.hid e8, Lib.hid (Has.nil _ _ _), Lib.hid (by simp)⟩
  case round =>
    obtain ⟨k, A, c, S, rfl, hk, ho, hb, hH, hS⟩ := hrel
    have hGr : Gro w wr := ho.out.gro hGc (fun b hb => by simp at hb; omega)
    have hwl : wc.heap.size ≤ wr.heap.size := ho.out.size
    have ebr := (ho.out.block g (by omega) (by simp; omega)).trans eb
    have err := (ho.out.block (g + 1) (by omega) (by simp)).trans er
    obtain ⟨q0, q1, q2, q3, q4, q5, q6, _, ql⟩ := row7 ebr
    obtain ⟨o0, o1, o2, o3, o4, o5, o6, of, ol⟩ := row7 hb.out
    obtain ⟨z0, z1, z2, z3, z4, z5, z6, zf, zl⟩ := row7 err
    by_cases hlt : k < x.Threads.length
    · obtain ⟨gI, off, y, Aa, ca, Ab, cb, rfl, hgI, hyk, m0, m1, m2, m3, m4, m5, m6, p0, p1, p2, p3, p4, p5, p6⟩ := atMachine h3 hlt
      have n0 := gcell hGr m0
      have n1 := gcell hGr m1
      have n2 := gcell hGr m2
      have n3 := gcell hGr m3
      have n4 := gcell hGr m4
      have n5 := gcell hGr m5
      have n6 := gcell hGr m6
      have r3 := Ty.up _ p3 hGr
      have r4 := Ty.up _ p4 hGr
      have hki : (k : Int) < (x.Threads.length : Int) := by omega
      have hll : x.Threads.length ≤ 1099511627776 := by unfold szL at hth; omega
      have hyl : szMachine y ≤ 1099511627776 := by have h1 := szL_elem szMachine hyk; omega
      clear m0 m1 m2 m3 m4 m5 m6
      go_upto_region 7 with (fail)
      refine region_T (fun w' => w'.cell? ⟨g, 3, none⟩ = some (.slice (some ⟨gI, off, none⟩) x.Threads.length c3) ∧ w'.cell? ⟨g + 1 + 1, 3, none⟩ = some (.slice A k c) ∧ w'.cell? ⟨gI, off + k * 7, none⟩ = some (.int .i64 y.Pc) ∧ w'.cell? ⟨gI, off + k * 7 + 1, none⟩ = some (.int .i64 y.Sp) ∧ w'.cell? ⟨gI, off + k * 7 + 2, none⟩ = some (.int .i64 y.Fp) ∧ w'.cell? ⟨gI, off + k * 7 + 3, none⟩ = some (.slice Aa y.Stack.length ca) ∧ w'.cell? ⟨gI, off + k * 7 + 4, none⟩ = some (.slice Ab y.Out.length cb) ∧ w'.cell? ⟨gI, off + k * 7 + 5, none⟩ = some (.int .i64 y.State) ∧ w'.cell? ⟨gI, off + k * 7 + 6, none⟩ = some (.int .i64 y.Value)) 11 (by kernel_rfl) (And.intro (drew_keeps q3) (And.intro (drew_keeps o3) (And.intro (drew_keeps n0) (And.intro (drew_keeps n1) (And.intro (drew_keeps n2) (And.intro (drew_keeps n3) (And.intro (drew_keeps n4) (And.intro (drew_keeps n5) (drew_keeps n6))))))))) (fun hS9 => ?_)
      refine AnyT.take (i := 0) (cs := [11]) rfl (by kernel_rfl) (by kernel_rfl) (by kernel_rfl) (by kernel_rfl) rfl (by kernel_rfl) (fun _ _ _ h => h) hS9 (by rfl) (by intro w hSw; (try dsimp only at hSw); go_simp; (try with_reducible rfl)) ?_
      try simp only [Act.put, List.setIfInBounds_toArray, List.set_cons_zero, List.set_cons_succ]
      refine AnyT.take (i := 1) (cs := [11]) rfl (by kernel_rfl) (by kernel_rfl) (by kernel_rfl) (by kernel_rfl) rfl (by kernel_rfl) (fun _ _ _ h => h) hS9 (by rfl) (by intro w hSw; (try dsimp only at hSw); go_simp; (try with_reducible rfl)) ?_
      try simp only [Act.put, List.setIfInBounds_toArray, List.set_cons_zero, List.set_cons_succ]
      refine AnyT.take (i := 2) (cs := [11]) rfl (by kernel_rfl) (by kernel_rfl) (by kernel_rfl) (by kernel_rfl) rfl (by kernel_rfl) (fun _ _ _ h => h) hS9 (by rfl) (by intro w hSw; (try dsimp only at hSw); go_simp; (try with_reducible rfl)) ?_
      try simp only [Act.put, List.setIfInBounds_toArray, List.set_cons_zero, List.set_cons_succ]
      refine AnyT.take (i := 3) (cs := [11]) rfl (by kernel_rfl) (by kernel_rfl) (by kernel_rfl) (by kernel_rfl) rfl (by kernel_rfl) (fun _ _ _ h => h) hS9 (by rfl) (by intro w hSw; (try dsimp only at hSw); go_simp; (try with_reducible rfl)) ?_
      try simp only [Act.put, List.setIfInBounds_toArray, List.set_cons_zero, List.set_cons_succ]
      refine AnyT.take (i := 4) (cs := [11]) rfl (by kernel_rfl) (by kernel_rfl) (by kernel_rfl) (by kernel_rfl) rfl (by kernel_rfl) (fun _ _ _ h => h) hS9 (by rfl) (by intro w hSw; (try dsimp only at hSw); go_simp; (try with_reducible rfl)) ?_
      try simp only [Act.put, List.setIfInBounds_toArray, List.set_cons_zero, List.set_cons_succ]
      refine AnyT.take (i := 5) (cs := [11]) rfl (by kernel_rfl) (by kernel_rfl) (by kernel_rfl) (by kernel_rfl) rfl (by kernel_rfl) (fun _ _ _ h => h) hS9 (by rfl) (by intro w hSw; (try dsimp only at hSw); go_simp; (try with_reducible rfl)) ?_
      try simp only [Act.put, List.setIfInBounds_toArray, List.set_cons_zero, List.set_cons_succ]
      refine AnyT.take (i := 6) (cs := [11]) rfl (by kernel_rfl) (by kernel_rfl) (by kernel_rfl) (by kernel_rfl) rfl (by kernel_rfl) (fun _ _ _ h => h) hS9 (by rfl) (by intro w hSw; (try dsimp only at hSw); go_simp; (try with_reducible rfl)) ?_
      try simp only [Act.put, List.setIfInBounds_toArray, List.set_cons_zero, List.set_cons_succ]
      refine AnyT.some1 (i := 7) (by kernel_rfl) rfl (fun K hK => ?_) 
      · go_simp
        go_at_call 106
        with_reducible refine (copyMachine_s (x := y) p0 p1 p2 (Ty.up _ r3 (by repeat (first | with_reducible exact Gro.refl _ | with_reducible exact Gro.refl_drew _ _ _ | with_reducible exact Gro.refl_drewN _ _ _ _ | assumption | with_reducible apply Gro.more | with_reducible apply Gro.alloc | with_reducible apply Gro.drew | with_reducible apply Gro.drewN))) (Ty.up _ r4 (by repeat (first | with_reducible exact Gro.refl _ | with_reducible exact Gro.refl_drew _ _ _ | with_reducible exact Gro.refl_drewN _ _ _ _ | assumption | with_reducible apply Gro.more | with_reducible apply Gro.alloc | with_reducible apply Gro.drew | with_reducible apply Gro.drewN))) p5 p6 hyl).mono ?_
        rintro e w2 ⟨Ba, ea, Bb, eb2, rfl, hFi, os2, e2, rfl⟩
        have hS9 := And.intro (gro_keeps (drew_keeps q3) os2 e2) (And.intro (gro_keeps (drew_keeps o3) os2 e2) (And.intro (gro_keeps (drew_keeps n0) os2 e2) (And.intro (gro_keeps (drew_keeps n1) os2 e2) (And.intro (gro_keeps (drew_keeps n2) os2 e2) (And.intro (gro_keeps (drew_keeps n3) os2 e2) (And.intro (gro_keeps (drew_keeps n4) os2 e2) (And.intro (gro_keeps (drew_keeps n5) os2 e2) (gro_keeps (drew_keeps n6) os2 e2))))))))
        refine hK.out _ _ hS9 ?_
        clear hK
        try simp only [Act.put, List.setIfInBounds_toArray, List.set_cons_zero, List.set_cons_succ]
        refine AnyT.some1 (i := 8) (by kernel_rfl) rfl (fun K hK => ?_) 
        · go_simp
          have hS9 := And.intro (alloc_keeps (gro_keeps (drew_keeps q3) os2 e2) (.cells #[.int .i64 y.Pc, .int .i64 y.Sp, .int .i64 y.Fp, .slice Ba y.Stack.length ea, .slice Bb y.Out.length eb2, .int .i64 y.State, .int .i64 y.Value] 80)) (And.intro (alloc_keeps (gro_keeps (drew_keeps o3) os2 e2) (.cells #[.int .i64 y.Pc, .int .i64 y.Sp, .int .i64 y.Fp, .slice Ba y.Stack.length ea, .slice Bb y.Out.length eb2, .int .i64 y.State, .int .i64 y.Value] 80)) (And.intro (alloc_keeps (gro_keeps (drew_keeps n0) os2 e2) (.cells #[.int .i64 y.Pc, .int .i64 y.Sp, .int .i64 y.Fp, .slice Ba y.Stack.length ea, .slice Bb y.Out.length eb2, .int .i64 y.State, .int .i64 y.Value] 80)) (And.intro (alloc_keeps (gro_keeps (drew_keeps n1) os2 e2) (.cells #[.int .i64 y.Pc, .int .i64 y.Sp, .int .i64 y.Fp, .slice Ba y.Stack.length ea, .slice Bb y.Out.length eb2, .int .i64 y.State, .int .i64 y.Value] 80)) (And.intro (alloc_keeps (gro_keeps (drew_keeps n2) os2 e2) (.cells #[.int .i64 y.Pc, .int .i64 y.Sp, .int .i64 y.Fp, .slice Ba y.Stack.length ea, .slice Bb y.Out.length eb2, .int .i64 y.State, .int .i64 y.Value] 80)) (And.intro (alloc_keeps (gro_keeps (drew_keeps n3) os2 e2) (.cells #[.int .i64 y.Pc, .int .i64 y.Sp, .int .i64 y.Fp, .slice Ba y.Stack.length ea, .slice Bb y.Out.length eb2, .int .i64 y.State, .int .i64 y.Value] 80)) (And.intro (alloc_keeps (gro_keeps (drew_keeps n4) os2 e2) (.cells #[.int .i64 y.Pc, .int .i64 y.Sp, .int .i64 y.Fp, .slice Ba y.Stack.length ea, .slice Bb y.Out.length eb2, .int .i64 y.State, .int .i64 y.Value] 80)) (And.intro (alloc_keeps (gro_keeps (drew_keeps n5) os2 e2) (.cells #[.int .i64 y.Pc, .int .i64 y.Sp, .int .i64 y.Fp, .slice Ba y.Stack.length ea, .slice Bb y.Out.length eb2, .int .i64 y.State, .int .i64 y.Value] 80)) (alloc_keeps (gro_keeps (drew_keeps n6) os2 e2) (.cells #[.int .i64 y.Pc, .int .i64 y.Sp, .int .i64 y.Fp, .slice Ba y.Stack.length ea, .slice Bb y.Out.length eb2, .int .i64 y.State, .int .i64 y.Value] 80)))))))))
          refine hK.out _ _ hS9 ?_
          clear hK
          try simp only [Act.put, List.setIfInBounds_toArray, List.set_cons_zero, List.set_cons_succ]
          refine AnyT.some1 (i := 9) (by kernel_rfl) rfl (fun K hK => ?_) 
          · obtain ⟨Sy, hHy, hly⟩ := Fresh.has hFi
            have hdis : ∀ b ∈ S, b ∉ Sy := fun b hb' hm => by have h1 : wr.heap.size ≤ b := hly b hm; have h2 := hH.out.lt b hb'; omega
            refine step_append_has (L := k + 1) rfl (.tmp 19) (.tmp 26) elMachine (hH.out.gro (by (repeat (first | with_reducible exact Gro.refl _ | with_reducible exact Gro.refl_drew _ _ _ | with_reducible exact Gro.refl_drewN _ _ _ _ | assumption | with_reducible apply Gro.more | with_reducible apply Gro.alloc | with_reducible apply Gro.drew | with_reducible apply Gro.drewN)); done)) (hHy.gro (by (repeat (first | with_reducible exact Gro.refl _ | with_reducible exact Gro.refl_drew _ _ _ | with_reducible exact Gro.refl_drewN _ _ _ _ | assumption | with_reducible apply Gro.more | with_reducible apply Gro.alloc | with_reducible apply Gro.drew | with_reducible apply Gro.drewN)); done)) hdis rfl rfl rfl (by intro j u hu; simpa [go_sem] using hu) rfl (by omega) (by omega) ?_
            intro A7 c7 W7 S7 hon hH7 hS7
            have hgS : ∀ i, i < wc.heap.size → i ∉ S := fun i hi hm => by have := hS.out i hm; omega
            have e7 := frz_thru hb.out (by (repeat (first | with_reducible exact Gro.refl _ | with_reducible exact Gro.refl_drew _ _ _ | with_reducible exact Gro.refl_drewN _ _ _ _ | assumption | with_reducible apply Gro.more | with_reducible apply Gro.alloc | with_reducible apply Gro.drew | with_reducible apply Gro.drewN)); done) hon (hgS _ (by omega))
            have hS9 := And.intro (keep_thru q3 (by (repeat (first | with_reducible exact Gro.refl _ | with_reducible exact Gro.refl_drew _ _ _ | with_reducible exact Gro.refl_drewN _ _ _ _ | assumption | with_reducible apply Gro.more | with_reducible apply Gro.alloc | with_reducible apply Gro.drew | with_reducible apply Gro.drewN)); done) hon (hgS _ (by omega))) (And.intro (keep_thru o3 (by (repeat (first | with_reducible exact Gro.refl _ | with_reducible exact Gro.refl_drew _ _ _ | with_reducible exact Gro.refl_drewN _ _ _ _ | assumption | with_reducible apply Gro.more | with_reducible apply Gro.alloc | with_reducible apply Gro.drew | with_reducible apply Gro.drewN)); done) hon (hgS _ (by omega))) (And.intro (keep_thru n0 (by (repeat (first | with_reducible exact Gro.refl _ | with_reducible exact Gro.refl_drew _ _ _ | with_reducible exact Gro.refl_drewN _ _ _ _ | assumption | with_reducible apply Gro.more | with_reducible apply Gro.alloc | with_reducible apply Gro.drew | with_reducible apply Gro.drewN)); done) hon (hgS _ (by omega))) (And.intro (keep_thru n1 (by (repeat (first | with_reducible exact Gro.refl _ | with_reducible exact Gro.refl_drew _ _ _ | with_reducible exact Gro.refl_drewN _ _ _ _ | assumption | with_reducible apply Gro.more | with_reducible apply Gro.alloc | with_reducible apply Gro.drew | with_reducible apply Gro.drewN)); done) hon (hgS _ (by omega))) (And.intro (keep_thru n2 (by (repeat (first | with_reducible exact Gro.refl _ | with_reducible exact Gro.refl_drew _ _ _ | with_reducible exact Gro.refl_drewN _ _ _ _ | assumption | with_reducible apply Gro.more | with_reducible apply Gro.alloc | with_reducible apply Gro.drew | with_reducible apply Gro.drewN)); done) hon (hgS _ (by omega))) (And.intro (keep_thru n3 (by (repeat (first | with_reducible exact Gro.refl _ | with_reducible exact Gro.refl_drew _ _ _ | with_reducible exact Gro.refl_drewN _ _ _ _ | assumption | with_reducible apply Gro.more | with_reducible apply Gro.alloc | with_reducible apply Gro.drew | with_reducible apply Gro.drewN)); done) hon (hgS _ (by omega))) (And.intro (keep_thru n4 (by (repeat (first | with_reducible exact Gro.refl _ | with_reducible exact Gro.refl_drew _ _ _ | with_reducible exact Gro.refl_drewN _ _ _ _ | assumption | with_reducible apply Gro.more | with_reducible apply Gro.alloc | with_reducible apply Gro.drew | with_reducible apply Gro.drewN)); done) hon (hgS _ (by omega))) (And.intro (keep_thru n5 (by (repeat (first | with_reducible exact Gro.refl _ | with_reducible exact Gro.refl_drew _ _ _ | with_reducible exact Gro.refl_drewN _ _ _ _ | assumption | with_reducible apply Gro.more | with_reducible apply Gro.alloc | with_reducible apply Gro.drew | with_reducible apply Gro.drewN)); done) hon (hgS _ (by omega))) (keep_thru n6 (by (repeat (first | with_reducible exact Gro.refl _ | with_reducible exact Gro.refl_drew _ _ _ | with_reducible exact Gro.refl_drewN _ _ _ _ | assumption | with_reducible apply Gro.more | with_reducible apply Gro.alloc | with_reducible apply Gro.drew | with_reducible apply Gro.drewN)); done) hon (hgS _ (by omega))))))))))
            have hGo : Gro wr ((gro wr os2 e2).alloc (.cells #[.int .i64 y.Pc, .int .i64 y.Sp, .int .i64 y.Fp, .slice Ba y.Stack.length ea, .slice Bb y.Out.length eb2, .int .i64 y.State, .int .i64 y.Value] 80)) := (by repeat (first | with_reducible exact Gro.refl _ | with_reducible exact Gro.refl_drew _ _ _ | with_reducible exact Gro.refl_drewN _ _ _ _ | assumption | with_reducible apply Gro.more | with_reducible apply Gro.alloc | with_reducible apply Gro.drew | with_reducible apply Gro.drewN))
            have hlo : ∀ b ∈ S7, wc.heap.size ≤ b := fun b hb' => by
              rcases hS7 b hb' with h | h | h
              · exact hS.out b h
              · have h8 : wr.heap.size ≤ b := hly b h
                omega
              · have := hGo.size; omega
            have ho9 := only_step ho.out hGo hon hS.out 3 (.slice A7 (k + 1) c7)
            have hb9 := set_at (i := 3) (v := .slice A7 (k + 1) c7) e7 rfl
            have hH9 := hH7.keep ((OnlyS.refl [g + 1 + 1] W7).setCell (p := ⟨g + 1 + 1, 3, none⟩) (by simp) (.slice A7 (k + 1) c7)) (fun b hb' hm => by have := hlo b hb'; simp at hm; omega)
            refine hK.out _ _ hS9 ?_
            clear hK
            try simp only [Act.put, List.setIfInBounds_toArray, List.set_cons_zero, List.set_cons_succ]
            refine AnyT.take (i := 10) (cs := [11]) rfl (by kernel_rfl) (by kernel_rfl) (by kernel_rfl) (by kernel_rfl) rfl (by kernel_rfl) (fun _ _ _ h => h) hS9 (by rfl) (by intro w hSw; (try dsimp only at hSw); go_simp; (try with_reducible rfl)) ?_
            try simp only [Act.put, List.setIfInBounds_toArray, List.set_cons_zero, List.set_cons_succ]
            obtain ⟨a0, a1, a2, a3, a4, a5, a6, af, al⟩ := row7 e7
            refine AnyT.last (by kernel_rfl) rfl (by kernel_rfl) (fun K hK => ?_)
            go_simp
            refine hK.out _ _ ?_
            clear hK
            try simp only [Act.put, List.setIfInBounds_toArray, List.set_cons_zero, List.set_cons_succ]
            generalize W7.setCell ⟨g + 1 + 1, 3, none⟩ (.slice A7 (k + 1) c7) = X at ho9 hb9 hH9 ⊢
            clear hS9 hon hH7 hS7 e7 hb hH ho
            have htk : x.Threads.take k ++ [y] = x.Threads.take (k + 1) := by rw [List.take_add_one, hyk]; rfl
            rw [htk] at hH9
            go_wp2_with (fail)
            go_roundw
            case measure => (simp [intOf]; try omega)
            case rel => exact ⟨k + 1, A7, c7, S7, by simp, by omega, Lib.hid ho9, Lib.hid hb9, Lib.hid hH9, Lib.hid hlo⟩
    · obtain rfl : k = x.Threads.length := by omega
      have hki : ¬ (x.Threads.length : Int) < (x.Threads.length : Int) := by omega
      have hHr := hH.out
      rw [List.take_length] at hHr
      go_wp2_with (fail)
      have h9 := set7 err (.slice B0 x.Space.Images.length d0) (.slice B1 x.Space.Bases.length d1) (.slice B2 x.Space.Entries.length d2) (.slice A x.Threads.length c) (.int .i64 x.Turn) (.int .i64 x.Left) (.int .i64 x.Slice)
      obtain ⟨r0, r1, r2, r3, r4, r5, r6, _, _⟩ := row7 h9.1
      have hG9 := h9.2.gro hGr (fun b hb' => by simp at hb'; omega)
      have hHs9 := (hHs.keep ho.out (fun b hb' hm => by have := hls2 b hb'; simp at hm; omega)).keep h9.2 (fun b hb' hm => by have := hls2 b hb'; simp at hm; omega)
      have hH9 := hHr.keep h9.2 (fun b hb' hm => by have := hS.out b hb'; simp at hm; omega)
      refine bodyPost_ret (v := .agg #[.slice B0 x.Space.Images.length d0, .slice B1 x.Space.Bases.length d1, .slice B2 x.Space.Entries.length d2, .slice A x.Threads.length c, .int .i64 x.Turn, .int .i64 x.Left, .int .i64 x.Slice]) (by simp [results, Try.results76, go_sem, r0, r1, r2, r3, r4, r5, r6]) rfl ⟨B0, d0, B1, d1, B2, d2, A, c, rfl, ⟨_, tProcess_mkOd hHs9.1 hH9.1 ht hle hsl, ?_, ?_⟩, hG9⟩
      · refine List.nodup_append.2 ⟨hHs9.2, hH9.2, fun a ha b hb' he => ?_⟩
        have h1 := hS.out b hb'
        have h2 := hHs.lt a ha
        omega
      · intro b hb'
        rcases List.mem_append.1 hb' with hb' | hb'
        · have := hls2 b hb'
          omega
        · have := hS.out b hb'
          omega
end Go.Proofs.Ytbhobjepjaeffaa
namespace Go.Proofs.Ytbhobjepjaeffaa
open Go.RowKit
/-- a datum of the call's own and an object, in a world that has grown from Y -/
structure J1 {α : Type} (T : Ty α) (Y W : World) (cs : List Value) (x : α) (S : List Nat) (go : Nat) (o : Obj) : Prop where
  hx : Has T W cs x S
  la : ∀ b ∈ S, Y.heap.size ≤ b
  hg : Gro Y W
  ho : W.heap[go]? = some o
  hoa : go ∉ S
section
variable {α : Type} {T : Ty α} {Y W W' : World} {cs : List Value} {x : α} {S : List Nat} {go : Nat} {o : Obj}
theorem J1.gro (h : J1 T Y W cs x S go o) (hg : Gro W W') : J1 T Y W' cs x S go o := ⟨h.hx.gro hg, h.la, h.hg.trans hg, grow_blk h.ho hg, h.hoa⟩
theorem J1.cell {p : Addr} {v : Value} (h : J1 T Y W cs x S go o) (hc : Y.cell? p = some v) : W.cell? p = some v := gcell h.hg hc
theorem J1.call {x' : α} {cs' : List Value} {os : Array Obj} {d : Nat} (h : J1 T Y W cs x S go o) (hF : Fresh T W (Go.Proofs.Ytbhobjepjaeffaa.gro W os d) cs' x') : ∃ S', J1 T Y (Go.Proofs.Ytbhobjepjaeffaa.gro W os d) cs' x' S' go o := by
  obtain ⟨S', h1, h2⟩ := Fresh.has hF
  have hl := (Array.getElem?_eq_some_iff.1 h.ho).1
  have := h.hg.size
  exact ⟨S', h1, fun b hb => by have := h2 b hb; omega, h.hg.more os d, grow_blk h.ho (Gro.of W os d), fun hm => by have := h2 go hm; omega⟩
theorem J1.alloc {cs' : Array Value} {t : TypeId} (h : J1 T Y W cs x S go o) : J1 T Y (W.alloc (.cells cs' t)) cs x S W.heap.size (.cells cs' t (0, 0)) :=
  ⟨h.hx.gro ((Gro.refl _).alloc _), h.la, h.hg.alloc _, heap_alloc_new _ _, fun hm => by have := h.hx.lt _ hm; omega⟩
theorem J1.store {o' : Obj} (h : J1 T Y W cs x S go o) (hon : OnlyS [go] W W') (ho' : W'.heap[go]? = some o') (hgo : Y.heap.size ≤ go) : J1 T Y W' cs x S go o' :=
  ⟨h.hx.keep hon (fun b hb hm => h.hoa (by simp at hm; exact hm ▸ hb)), h.la, hon.gro h.hg (fun b hb => by simp at hb; omega), ho', h.hoa⟩
end
theorem J1.start {Y : World} {go : Nat} {o : Obj} (ho : Y.heap[go]? = some o) : J1 tSpace Y Y [.slice none 0 0, .slice none 0 0, .slice none 0 0] ⟨[], [], []⟩ [] go o :=
  ⟨⟨tSpace_mkOd (x := ⟨[], [], []⟩) (Has.nil tImage 96 Y).1 (Has.nil intT 3 Y).1 (Has.nil intT 3 Y).1, by simp⟩, by simp, Gro.refl _, ho, by simp⟩
set_option maxRecDepth 100000 in
set_option maxHeartbeats 3000000 in
theorem copyProcess_i {x : DProcess} {w : World} {A0 A1 A2 A3 : Option Addr} {c0 c1 c2 c3 : Nat} (h0 : (tImage.sl 96).R w w.heap.size [.slice A0 x.Space.Images.length c0] x.Space.Images) (h1 : (intT.sl 3).R w w.heap.size [.slice A1 x.Space.Bases.length c1] x.Space.Bases)
    (h2 : (intT.sl 3).R w w.heap.size [.slice A2 x.Space.Entries.length c2] x.Space.Entries) (h3 : (tMachine.sl 80).R w w.heap.size [.slice A3 x.Threads.length c3] x.Threads) (ht : I64 x.Turn) (hle : I64 x.Left) (hsl : I64 x.Slice) (hs : szProcess x ≤ 1099511627776) :
    Calls Try.prog 78 #[.agg #[.slice A0 x.Space.Images.length c0, .slice A1 x.Space.Bases.length c1, .slice A2 x.Space.Entries.length c2, .slice A3 x.Threads.length c3, .int .i64 x.Turn, .int .i64 x.Left, .int .i64 x.Slice]] w (RetProcess x w) := by
  have hs2 : szSpace x.Space ≤ 1099511627776 := by unfold szProcess at hs; omega
  have hth : szL szMachine x.Threads ≤ 1099511627776 := by unfold szProcess at hs; omega
  go_enter Try.func78, Try.ntmps78
  go_upto_region 1 with (fail)
  have hG0 : Gro w ((w.alloc (.cells #[.slice A0 x.Space.Images.length c0, .slice A1 x.Space.Bases.length c1, .slice A2 x.Space.Entries.length c2, .slice A3 x.Threads.length c3, .int .i64 x.Turn, .int .i64 x.Left, .int .i64 x.Slice] 36)).alloc (.cells #[.slice none 0 0, .slice none 0 0, .slice none 0 0, .slice none 0 0, .int .i64 0, .int .i64 0, .int .i64 0] 36)) := (by repeat (first | with_reducible exact Gro.refl _ | with_reducible exact Gro.refl_drew _ _ _ | with_reducible exact Gro.refl_drewN _ _ _ _ | assumption | with_reducible apply Gro.more | with_reducible apply Gro.alloc | with_reducible apply Gro.drew | with_reducible apply Gro.drewN))
  have eb : ((w.alloc (.cells #[.slice A0 x.Space.Images.length c0, .slice A1 x.Space.Bases.length c1, .slice A2 x.Space.Entries.length c2, .slice A3 x.Threads.length c3, .int .i64 x.Turn, .int .i64 x.Left, .int .i64 x.Slice] 36)).alloc (.cells #[.slice none 0 0, .slice none 0 0, .slice none 0 0, .slice none 0 0, .int .i64 0, .int .i64 0, .int .i64 0] 36)).heap[w.heap.size]? = some (.cells #[.slice A0 x.Space.Images.length c0, .slice A1 x.Space.Bases.length c1, .slice A2 x.Space.Entries.length c2, .slice A3 x.Threads.length c3, .int .i64 x.Turn, .int .i64 x.Left, .int .i64 x.Slice] 36 (0, 0)) := grow_blk (heap_alloc_new w _) (by (repeat (first | with_reducible exact Gro.refl _ | with_reducible exact Gro.refl_drew _ _ _ | with_reducible exact Gro.refl_drewN _ _ _ _ | assumption | with_reducible apply Gro.more | with_reducible apply Gro.alloc | with_reducible apply Gro.drew | with_reducible apply Gro.drewN)); done)
  have er : ((w.alloc (.cells #[.slice A0 x.Space.Images.length c0, .slice A1 x.Space.Bases.length c1, .slice A2 x.Space.Entries.length c2, .slice A3 x.Threads.length c3, .int .i64 x.Turn, .int .i64 x.Left, .int .i64 x.Slice] 36)).alloc (.cells #[.slice none 0 0, .slice none 0 0, .slice none 0 0, .slice none 0 0, .int .i64 0, .int .i64 0, .int .i64 0] 36)).heap[w.heap.size + 1]? = some (.cells #[.slice none 0 0, .slice none 0 0, .slice none 0 0, .slice none 0 0, .int .i64 0, .int .i64 0, .int .i64 0] 36 (0, 0)) := by have h := heap_alloc_new (w.alloc (.cells #[.slice A0 x.Space.Images.length c0, .slice A1 x.Space.Bases.length c1, .slice A2 x.Space.Entries.length c2, .slice A3 x.Threads.length c3, .int .i64 x.Turn, .int .i64 x.Left, .int .i64 x.Slice] 36)) (.cells #[.slice none 0 0, .slice none 0 0, .slice none 0 0, .slice none 0 0, .int .i64 0, .int .i64 0, .int .i64 0] 36); rw [World.size_alloc] at h; exact h
  have hd0 := Ty.up _ h0 hG0
  have hd1 := Ty.up _ h1 hG0
  have hd2 := Ty.up _ h2 hG0
  have hd3 := Ty.up _ h3 hG0
  obtain ⟨g, hg⟩ : ∃ g, w.heap.size = g := ⟨_, rfl⟩
  have hYs : g + 1 < ((w.alloc (.cells #[.slice A0 x.Space.Images.length c0, .slice A1 x.Space.Bases.length c1, .slice A2 x.Space.Entries.length c2, .slice A3 x.Threads.length c3, .int .i64 x.Turn, .int .i64 x.Left, .int .i64 x.Slice] 36)).alloc (.cells #[.slice none 0 0, .slice none 0 0, .slice none 0 0, .slice none 0 0, .int .i64 0, .int .i64 0, .int .i64 0] 36)).heap.size := by rw [World.size_alloc, World.size_alloc]; omega
  rw [hg] at eb er ⊢
  generalize ((w.alloc (.cells #[.slice A0 x.Space.Images.length c0, .slice A1 x.Space.Bases.length c1, .slice A2 x.Space.Entries.length c2, .slice A3 x.Threads.length c3, .int .i64 x.Turn, .int .i64 x.Left, .int .i64 x.Slice] 36)).alloc (.cells #[.slice none 0 0, .slice none 0 0, .slice none 0 0, .slice none 0 0, .int .i64 0, .int .i64 0, .int .i64 0] 36)) = Y at hG0 eb er hd0 hd1 hd2 hd3 hYs ⊢
  obtain ⟨y0, y1, y2, y3, y4, y5, y6, _, yl⟩ := row7 eb
  clear h0 h1 h2 h3
  go_cut [3] from 3 to 15 (fun v3 wx => ∃ (g8 : Nat) (B0 B1 B2 : Option Addr) (d0 d1 d2 : Nat) (SS : List Nat), v3 = .pointer (some ⟨g8, 0, none⟩) ∧ J1 tSpace Y wx [.slice B0 x.Space.Images.length d0, .slice B1 x.Space.Bases.length d1, .slice B2 x.Space.Entries.length d2] x.Space SS g8 (.cells #[.slice B0 x.Space.Images.length d0, .slice B1 x.Space.Bases.length d1, .slice B2 x.Space.Entries.length d2, .slice none 0 0, .int .i64 x.Turn, .int .i64 x.Left, .int .i64 x.Slice] 36 (0, 0)) ∧ Y.heap.size ≤ g8)
  case first =>
    refine region_T (fun w' => w'.cell? ⟨g, 0, none⟩ = some (.slice A0 x.Space.Images.length c0) ∧ w'.cell? ⟨g, 1, none⟩ = some (.slice A1 x.Space.Bases.length c1) ∧ w'.cell? ⟨g, 2, none⟩ = some (.slice A2 x.Space.Entries.length c2) ∧ w'.cell? ⟨g, 4, none⟩ = some (.int .i64 x.Turn) ∧ w'.cell? ⟨g, 5, none⟩ = some (.int .i64 x.Left) ∧ w'.cell? ⟨g, 6, none⟩ = some (.int .i64 x.Slice)) 11 (by kernel_rfl) (And.intro (drew_keeps y0) (And.intro (drew_keeps y1) (And.intro (drew_keeps y2) (And.intro (drew_keeps y4) (And.intro (drew_keeps y5) (drew_keeps y6)))))) (fun hS9 => ?_)
    have HJ := (J1.start er).gro ((Gro.refl Y).drew)
    generalize hYd : Y.drew = Wx at HJ hS9 ⊢
    clear hYd
    refine AnyT.take (i := 0) (cs := [11]) rfl (by kernel_rfl) (by kernel_rfl) (by kernel_rfl) (by kernel_rfl) rfl (by kernel_rfl) (fun _ _ _ h => h) hS9 (by rfl) (by intro w hSw; (try dsimp only at hSw); go_simp; (try with_reducible rfl)) ?_
    try simp only [Act.put, List.setIfInBounds_toArray, List.set_cons_zero, List.set_cons_succ]
    refine AnyT.take (i := 1) (cs := [11]) rfl (by kernel_rfl) (by kernel_rfl) (by kernel_rfl) (by kernel_rfl) rfl (by kernel_rfl) (fun _ _ _ h => h) hS9 (by rfl) (by intro w hSw; (try dsimp only at hSw); go_simp; (try with_reducible rfl)) ?_
    try simp only [Act.put, List.setIfInBounds_toArray, List.set_cons_zero, List.set_cons_succ]
    refine AnyT.take (i := 3) (cs := [11]) rfl (by kernel_rfl) (by kernel_rfl) (by kernel_rfl) (by kernel_rfl) rfl (by kernel_rfl) (fun _ _ _ h => h) hS9 (by rfl) (by intro w hSw; (try dsimp only at hSw); go_simp; (try with_reducible rfl)) ?_
    try simp only [Act.put, List.setIfInBounds_toArray, List.set_cons_zero, List.set_cons_succ]
    refine AnyT.take (i := 4) (cs := [11]) rfl (by kernel_rfl) (by kernel_rfl) (by kernel_rfl) (by kernel_rfl) rfl (by kernel_rfl) (fun _ _ _ h => h) hS9 (by rfl) (by intro w hSw; (try dsimp only at hSw); go_simp; (try with_reducible rfl)) ?_
    try simp only [Act.put, List.setIfInBounds_toArray, List.set_cons_zero, List.set_cons_succ]
    refine AnyT.take (i := 5) (cs := [11]) rfl (by kernel_rfl) (by kernel_rfl) (by kernel_rfl) (by kernel_rfl) rfl (by kernel_rfl) (fun _ _ _ h => h) hS9 (by rfl) (by intro w hSw; (try dsimp only at hSw); go_simp; (try with_reducible rfl)) ?_
    try simp only [Act.put, List.setIfInBounds_toArray, List.set_cons_zero, List.set_cons_succ]
    refine AnyT.take (i := 6) (cs := [11]) rfl (by kernel_rfl) (by kernel_rfl) (by kernel_rfl) (by kernel_rfl) rfl (by kernel_rfl) (fun _ _ _ h => h) hS9 (by rfl) (by intro w hSw; (try dsimp only at hSw); go_simp; (try with_reducible rfl)) ?_
    try simp only [Act.put, List.setIfInBounds_toArray, List.set_cons_zero, List.set_cons_succ]
    refine AnyT.take (i := 7) (cs := [11]) rfl (by kernel_rfl) (by kernel_rfl) (by kernel_rfl) (by kernel_rfl) rfl (by kernel_rfl) (fun _ _ _ h => h) hS9 (by rfl) (by intro w hSw; (try dsimp only at hSw); go_simp; (try with_reducible rfl)) ?_
    try simp only [Act.put, List.setIfInBounds_toArray, List.set_cons_zero, List.set_cons_succ]
    refine AnyT.take (i := 8) (cs := [11]) rfl (by kernel_rfl) (by kernel_rfl) (by kernel_rfl) (by kernel_rfl) rfl (by kernel_rfl) (fun _ _ _ h => h) hS9 (by rfl) (by intro w hSw; (try dsimp only at hSw); go_simp; (try with_reducible rfl)) ?_
    try simp only [Act.put, List.setIfInBounds_toArray, List.set_cons_zero, List.set_cons_succ]
    refine AnyT.some2 (i := 2) (j := 10) (by kernel_rfl) rfl rfl (fun K hK => ?_) (fun K hK => ?_) 
    · go_simp
      go_at_call 57
      with_reducible refine (copySpace_i (s := x.Space) (Ty.up _ hd0 HJ.hg) (Ty.up _ hd1 HJ.hg) (Ty.up _ hd2 HJ.hg) hs2).mono ?_
      rintro e w2 ⟨B0, d0, B1, d1, B2, d2, rfl, hFs, os1, e1, rfl⟩
      obtain ⟨SS, HJ⟩ := HJ.call hFs
      have hS9 := And.intro (HJ.cell y0) (And.intro (HJ.cell y1) (And.intro (HJ.cell y2) (And.intro (HJ.cell y4) (And.intro (HJ.cell y5) (HJ.cell y6)))))
      refine hK.out _ _ hS9 ?_
      clear hK
      generalize gro Wx os1 e1 = Wx at HJ hS9 ⊢
      try simp only [Act.put, List.setIfInBounds_toArray, List.set_cons_zero, List.set_cons_succ]
      refine AnyT.take (i := 9) (cs := [11]) rfl (by kernel_rfl) (by kernel_rfl) (by kernel_rfl) (by kernel_rfl) rfl (by kernel_rfl) (fun _ _ _ h => h) hS9 (by rfl) (by intro w hSw; (try dsimp only at hSw); go_simp; (try with_reducible rfl)) ?_
      try simp only [Act.put, List.setIfInBounds_toArray, List.set_cons_zero, List.set_cons_succ]
      refine AnyT.some1 (i := 10) (by kernel_rfl) rfl (fun K hK => ?_) 
      · go_simp
        have hgo := HJ.hg.size
        have HJ := HJ.alloc (cs' := #[.slice none 0 0, .slice none 0 0, .slice none 0 0, .slice none 0 0, .int .i64 0, .int .i64 0, .int .i64 0]) (t := 36)
        have hS9 := And.intro (HJ.cell y0) (And.intro (HJ.cell y1) (And.intro (HJ.cell y2) (And.intro (HJ.cell y4) (And.intro (HJ.cell y5) (HJ.cell y6)))))
        refine hK.out _ _ hS9 ?_
        clear hK
        generalize World.alloc _ (.cells #[.slice none 0 0, .slice none 0 0, .slice none 0 0, .slice none 0 0, .int .i64 0, .int .i64 0, .int .i64 0] 36) = Wx at HJ hS9 ⊢
        try simp only [Act.put, List.setIfInBounds_toArray, List.set_cons_zero, List.set_cons_succ]
        obtain ⟨o0, o1, o2, o3, o4, o5, o6, of, ol⟩ := row7 HJ.ho
        refine AnyT.last (by kernel_rfl) rfl (by kernel_rfl) (fun K hK => ?_)
        go_simp
        refine hK.out _ _ ?_
        clear hK
        try simp only [Act.put, List.setIfInBounds_toArray, List.set_cons_zero, List.set_cons_succ]
        have h2 := set7 HJ.ho (.slice B0 x.Space.Images.length d0) (.slice B1 x.Space.Bases.length d1) (.slice B2 x.Space.Entries.length d2) (.slice none 0 0) (.int .i64 x.Turn) (.int .i64 x.Left) (.int .i64 x.Slice)
        have HJ := HJ.store h2.2 h2.1 hgo
        go_wp2_with (fail)
        go_meet
        exact ⟨_, B0, B1, B2, d0, d1, d2, SS, rfl, HJ, hgo⟩
    · go_simp
      have hgo := HJ.hg.size
      have HJ := HJ.alloc (cs' := #[.slice none 0 0, .slice none 0 0, .slice none 0 0, .slice none 0 0, .int .i64 0, .int .i64 0, .int .i64 0]) (t := 36)
      have hS9 := And.intro (HJ.cell y0) (And.intro (HJ.cell y1) (And.intro (HJ.cell y2) (And.intro (HJ.cell y4) (And.intro (HJ.cell y5) (HJ.cell y6)))))
      refine hK.out _ _ hS9 ?_
      clear hK
      generalize World.alloc _ (.cells #[.slice none 0 0, .slice none 0 0, .slice none 0 0, .slice none 0 0, .int .i64 0, .int .i64 0, .int .i64 0] 36) = Wx at HJ hS9 ⊢
      try simp only [Act.put, List.setIfInBounds_toArray, List.set_cons_zero, List.set_cons_succ]
      refine AnyT.some1 (i := 2) (by kernel_rfl) rfl (fun K hK => ?_) 
      · go_simp
        go_at_call 57
        with_reducible refine (copySpace_i (s := x.Space) (Ty.up _ hd0 HJ.hg) (Ty.up _ hd1 HJ.hg) (Ty.up _ hd2 HJ.hg) hs2).mono ?_
        rintro e w2 ⟨B0, d0, B1, d1, B2, d2, rfl, hFs, os1, e1, rfl⟩
        obtain ⟨SS, HJ⟩ := HJ.call hFs
        have hS9 := And.intro (HJ.cell y0) (And.intro (HJ.cell y1) (And.intro (HJ.cell y2) (And.intro (HJ.cell y4) (And.intro (HJ.cell y5) (HJ.cell y6)))))
        refine hK.out _ _ hS9 ?_
        clear hK
        generalize gro Wx os1 e1 = Wx at HJ hS9 ⊢
        try simp only [Act.put, List.setIfInBounds_toArray, List.set_cons_zero, List.set_cons_succ]
        refine AnyT.take (i := 9) (cs := [11]) rfl (by kernel_rfl) (by kernel_rfl) (by kernel_rfl) (by kernel_rfl) rfl (by kernel_rfl) (fun _ _ _ h => h) hS9 (by rfl) (by intro w hSw; (try dsimp only at hSw); go_simp; (try with_reducible rfl)) ?_
        try simp only [Act.put, List.setIfInBounds_toArray, List.set_cons_zero, List.set_cons_succ]
        obtain ⟨o0, o1, o2, o3, o4, o5, o6, of, ol⟩ := row7 HJ.ho
        refine AnyT.last (by kernel_rfl) rfl (by kernel_rfl) (fun K hK => ?_)
        go_simp
        refine hK.out _ _ ?_
        clear hK
        try simp only [Act.put, List.setIfInBounds_toArray, List.set_cons_zero, List.set_cons_succ]
        have h2 := set7 HJ.ho (.slice B0 x.Space.Images.length d0) (.slice B1 x.Space.Bases.length d1) (.slice B2 x.Space.Entries.length d2) (.slice none 0 0) (.int .i64 x.Turn) (.int .i64 x.Left) (.int .i64 x.Slice)
        have HJ := HJ.store h2.2 h2.1 hgo
        go_wp2_with (fail)
        go_meet
        exact ⟨_, B0, B1, B2, d0, d1, d2, SS, rfl, HJ, hgo⟩
  case rest =>
    obtain ⟨g8, B0, B1, B2, d0, d1, d2, SS, rfl, HJ, hgo⟩ := hcut
    have hgg8 : g ≠ g8 := by omega
    have hl8 := (Array.getElem?_eq_some_iff.1 HJ.ho).1
    have c3w := HJ.cell y3
    go_wp2_with (fail)
    go_loopw [19] (fun a wr => ∃ (k : Nat) (A : Option Addr) (c : Nat) (S : List Nat), a = .int .i64 k ∧ k ≤ x.Threads.length ∧ Hid (OnlyS [g8] wc wr) ∧ Hid (wr.heap[g8]? = some (.cells #[.slice B0 x.Space.Images.length d0, .slice B1 x.Space.Bases.length d1, .slice B2 x.Space.Entries.length d2, .slice A k c, .int .i64 x.Turn, .int .i64 x.Left, .int .i64 x.Slice] 36 (0, 0))) ∧ Hid (Has (tMachine.sl 80) wr [.slice A k c] (x.Threads.take k) S) ∧ Hid (∀ b ∈ S, wc.heap.size ≤ b)) (fun a _ => x.Threads.length - (intOf a).toNat)
    case atStart => exact ⟨0, none, 0, [], rfl, Nat.zero_le _, Lib.hid (OnlyS.refl _ _), Lib.hid HJ.ho, Lib.hid (Has.nil _ _ _), Lib.hid (by simp)⟩
    case round =>
      obtain ⟨k, A, c, S, rfl, hk, ho, hb, hH, hS⟩ := hrel
      have hGr : Gro Y wr := ho.out.gro HJ.hg (fun b hb => by simp at hb; omega)
      have hwl : wc.heap.size ≤ wr.heap.size := ho.out.size
      have err := grow_blk er hGr
      have q3 := gcell hGr y3
      obtain ⟨o0, o1, o2, o3, o4, o5, o6, of, ol⟩ := row7 hb.out
      obtain ⟨z0, z1, z2, z3, z4, z5, z6, zf, zl⟩ := row7 err
      by_cases hlt : k < x.Threads.length
      · obtain ⟨gI, off, y, Aa, ca, Ab, cb, rfl, hgI, hyk, m0, m1, m2, m3, m4, m5, m6, p0, p1, p2, p3, p4, p5, p6⟩ := atMachine hd3 hlt
        have n0 := gcell hGr m0
        have n1 := gcell hGr m1
        have n2 := gcell hGr m2
        have n3 := gcell hGr m3
        have n4 := gcell hGr m4
        have n5 := gcell hGr m5
        have n6 := gcell hGr m6
        have r3 := Ty.up _ p3 hGr
        have r4 := Ty.up _ p4 hGr
        have hki : (k : Int) < (x.Threads.length : Int) := by omega
        have hll : x.Threads.length ≤ 1099511627776 := by unfold szL at hth; omega
        have hyl : szMachine y ≤ 1099511627776 := by have h1 := szL_elem szMachine hyk; omega
        clear m0 m1 m2 m3 m4 m5 m6
        go_upto_region 5 with (fail)
        have hGV : Gro wr (wr.alloc (.cells #[.int .i64 y.Pc, .int .i64 y.Sp, .int .i64 y.Fp, .slice Aa y.Stack.length ca, .slice Ab y.Out.length cb, .int .i64 y.State, .int .i64 y.Value] 80)) := (by repeat (first | with_reducible exact Gro.refl _ | with_reducible exact Gro.refl_drew _ _ _ | with_reducible exact Gro.refl_drewN _ _ _ _ | assumption | with_reducible apply Gro.more | with_reducible apply Gro.alloc | with_reducible apply Gro.drew | with_reducible apply Gro.drewN))
        have eV : (wr.alloc (.cells #[.int .i64 y.Pc, .int .i64 y.Sp, .int .i64 y.Fp, .slice Aa y.Stack.length ca, .slice Ab y.Out.length cb, .int .i64 y.State, .int .i64 y.Value] 80)).heap[wr.heap.size]? = some (.cells #[.int .i64 y.Pc, .int .i64 y.Sp, .int .i64 y.Fp, .slice Aa y.Stack.length ca, .slice Ab y.Out.length cb, .int .i64 y.State, .int .i64 y.Value] 80 (0, 0)) := heap_alloc_new _ _
        obtain ⟨b5, hb5⟩ : ∃ b5, wr.heap.size = b5 := ⟨_, rfl⟩
        rw [hb5] at eV ⊢
        generalize wr.alloc (.cells #[.int .i64 y.Pc, .int .i64 y.Sp, .int .i64 y.Fp, .slice Aa y.Stack.length ca, .slice Ab y.Out.length cb, .int .i64 y.State, .int .i64 y.Value] 80) = V at hGV eV ⊢
        have hbV := grow_blk hb.out hGV
        have hHV := hH.out.gro hGV
        have r3V := Ty.up _ r3 hGV
        have r4V := Ty.up _ r4 hGV
        obtain ⟨v0, v1, v2, v3, v4, v5, v6, _, vl⟩ := row7 eV
        clear o0 o1 o2 o3 o4 o5 o6 of ol
        obtain ⟨o0, o1, o2, o3, o4, o5, o6, of, ol⟩ := row7 hbV
        refine region_T (fun w' => w'.cell? ⟨g8, 3, none⟩ = some (.slice A k c) ∧ w'.cell? ⟨b5, 0, none⟩ = some (.int .i64 y.Pc) ∧ w'.cell? ⟨b5, 1, none⟩ = some (.int .i64 y.Sp) ∧ w'.cell? ⟨b5, 2, none⟩ = some (.int .i64 y.Fp) ∧ w'.cell? ⟨b5, 3, none⟩ = some (.slice Aa y.Stack.length ca) ∧ w'.cell? ⟨b5, 4, none⟩ = some (.slice Ab y.Out.length cb) ∧ w'.cell? ⟨b5, 5, none⟩ = some (.int .i64 y.State) ∧ w'.cell? ⟨b5, 6, none⟩ = some (.int .i64 y.Value)) 7 (by kernel_rfl) (And.intro (drew_keeps o3) (And.intro (drew_keeps v0) (And.intro (drew_keeps v1) (And.intro (drew_keeps v2) (And.intro (drew_keeps v3) (And.intro (drew_keeps v4) (And.intro (drew_keeps v5) (drew_keeps v6)))))))) (fun hS9 => ?_)
        refine AnyT.take (i := 0) (cs := [7]) rfl (by kernel_rfl) (by kernel_rfl) (by kernel_rfl) (by kernel_rfl) rfl (by kernel_rfl) (fun _ _ _ h => h) hS9 (by rfl) (by intro w hSw; (try dsimp only at hSw); go_simp; (try with_reducible rfl)) ?_
        try simp only [Act.put, List.setIfInBounds_toArray, List.set_cons_zero, List.set_cons_succ]
        refine AnyT.take (i := 1) (cs := [7]) rfl (by kernel_rfl) (by kernel_rfl) (by kernel_rfl) (by kernel_rfl) rfl (by kernel_rfl) (fun _ _ _ h => h) hS9 (by rfl) (by intro w hSw; (try dsimp only at hSw); go_simp; (try with_reducible rfl)) ?_
        try simp only [Act.put, List.setIfInBounds_toArray, List.set_cons_zero, List.set_cons_succ]
        refine AnyT.take (i := 2) (cs := [7]) rfl (by kernel_rfl) (by kernel_rfl) (by kernel_rfl) (by kernel_rfl) rfl (by kernel_rfl) (fun _ _ _ h => h) hS9 (by rfl) (by intro w hSw; (try dsimp only at hSw); go_simp; (try with_reducible rfl)) ?_
        try simp only [Act.put, List.setIfInBounds_toArray, List.set_cons_zero, List.set_cons_succ]
        refine AnyT.some1 (i := 3) (by kernel_rfl) rfl (fun K hK => ?_) 
        · go_simp
          go_at_call 108
          with_reducible refine (copyMachine_i (x := y) p0 p1 p2 (Ty.up _ r3V (by repeat (first | with_reducible exact Gro.refl _ | with_reducible exact Gro.refl_drew _ _ _ | with_reducible exact Gro.refl_drewN _ _ _ _ | assumption | with_reducible apply Gro.more | with_reducible apply Gro.alloc | with_reducible apply Gro.drew | with_reducible apply Gro.drewN))) (Ty.up _ r4V (by repeat (first | with_reducible exact Gro.refl _ | with_reducible exact Gro.refl_drew _ _ _ | with_reducible exact Gro.refl_drewN _ _ _ _ | assumption | with_reducible apply Gro.more | with_reducible apply Gro.alloc | with_reducible apply Gro.drew | with_reducible apply Gro.drewN))) p5 p6 hyl).mono ?_
          rintro e w2 ⟨Ba, ea, Bb, eb2, rfl, hFi, os2, e2, rfl⟩
          have hS9 := And.intro (gro_keeps (drew_keeps o3) os2 e2) (And.intro (gro_keeps (drew_keeps v0) os2 e2) (And.intro (gro_keeps (drew_keeps v1) os2 e2) (And.intro (gro_keeps (drew_keeps v2) os2 e2) (And.intro (gro_keeps (drew_keeps v3) os2 e2) (And.intro (gro_keeps (drew_keeps v4) os2 e2) (And.intro (gro_keeps (drew_keeps v5) os2 e2) (gro_keeps (drew_keeps v6) os2 e2)))))))
          refine hK.out _ _ hS9 ?_
          clear hK
          try simp only [Act.put, List.setIfInBounds_toArray, List.set_cons_zero, List.set_cons_succ]
          refine AnyT.some1 (i := 4) (by kernel_rfl) rfl (fun K hK => ?_) 
          · go_simp
            have hS9 := And.intro (alloc_keeps (gro_keeps (drew_keeps o3) os2 e2) (.cells #[.int .i64 y.Pc, .int .i64 y.Sp, .int .i64 y.Fp, .slice Ba y.Stack.length ea, .slice Bb y.Out.length eb2, .int .i64 y.State, .int .i64 y.Value] 80)) (And.intro (alloc_keeps (gro_keeps (drew_keeps v0) os2 e2) (.cells #[.int .i64 y.Pc, .int .i64 y.Sp, .int .i64 y.Fp, .slice Ba y.Stack.length ea, .slice Bb y.Out.length eb2, .int .i64 y.State, .int .i64 y.Value] 80)) (And.intro (alloc_keeps (gro_keeps (drew_keeps v1) os2 e2) (.cells #[.int .i64 y.Pc, .int .i64 y.Sp, .int .i64 y.Fp, .slice Ba y.Stack.length ea, .slice Bb y.Out.length eb2, .int .i64 y.State, .int .i64 y.Value] 80)) (And.intro (alloc_keeps (gro_keeps (drew_keeps v2) os2 e2) (.cells #[.int .i64 y.Pc, .int .i64 y.Sp, .int .i64 y.Fp, .slice Ba y.Stack.length ea, .slice Bb y.Out.length eb2, .int .i64 y.State, .int .i64 y.Value] 80)) (And.intro (alloc_keeps (gro_keeps (drew_keeps v3) os2 e2) (.cells #[.int .i64 y.Pc, .int .i64 y.Sp, .int .i64 y.Fp, .slice Ba y.Stack.length ea, .slice Bb y.Out.length eb2, .int .i64 y.State, .int .i64 y.Value] 80)) (And.intro (alloc_keeps (gro_keeps (drew_keeps v4) os2 e2) (.cells #[.int .i64 y.Pc, .int .i64 y.Sp, .int .i64 y.Fp, .slice Ba y.Stack.length ea, .slice Bb y.Out.length eb2, .int .i64 y.State, .int .i64 y.Value] 80)) (And.intro (alloc_keeps (gro_keeps (drew_keeps v5) os2 e2) (.cells #[.int .i64 y.Pc, .int .i64 y.Sp, .int .i64 y.Fp, .slice Ba y.Stack.length ea, .slice Bb y.Out.length eb2, .int .i64 y.State, .int .i64 y.Value] 80)) (alloc_keeps (gro_keeps (drew_keeps v6) os2 e2) (.cells #[.int .i64 y.Pc, .int .i64 y.Sp, .int .i64 y.Fp, .slice Ba y.Stack.length ea, .slice Bb y.Out.length eb2, .int .i64 y.State, .int .i64 y.Value] 80))))))))
            refine hK.out _ _ hS9 ?_
            clear hK
            try simp only [Act.put, List.setIfInBounds_toArray, List.set_cons_zero, List.set_cons_succ]
            refine AnyT.some1 (i := 5) (by kernel_rfl) rfl (fun K hK => ?_) 
            · obtain ⟨Sy, hHy, hly⟩ := Fresh.has hFi
              have hdis : ∀ b ∈ S, b ∉ Sy := fun b hb' hm => by have h1 : V.heap.size ≤ b := hly b hm; have h2 := hHV.lt b hb'; omega
              have hG9 : Gro wr ((gro V os2 e2).alloc (.cells #[.int .i64 y.Pc, .int .i64 y.Sp, .int .i64 y.Fp, .slice Ba y.Stack.length ea, .slice Bb y.Out.length eb2, .int .i64 y.State, .int .i64 y.Value] 80)) := (hGV.trans (Gro.of V os2 e2)).alloc _
              have hb5S : b5 ∉ S := fun hm => by have := hH.out.lt b5 hm; omega
              refine step_append_has (L := k + 1) rfl (.tmp 24) (.tmp 27) elMachine (hH.out.gro hG9) (hHy.gro (by (repeat (first | with_reducible exact Gro.refl _ | with_reducible exact Gro.refl_drew _ _ _ | with_reducible exact Gro.refl_drewN _ _ _ _ | assumption | with_reducible apply Gro.more | with_reducible apply Gro.alloc | with_reducible apply Gro.drew | with_reducible apply Gro.drewN)); done)) hdis rfl rfl rfl (by intro j u hu; simpa [go_sem] using hu) rfl (by omega) (by omega) ?_
              intro A7 c7 W7 S7 hon hH7 hS7
              have hgS : ∀ i, i < wc.heap.size → i ∉ S := fun i hi hm => by have := hS.out i hm; omega
              have e7 := frz_thru hb.out hG9 hon (hgS _ (by omega))
              have hS9 := And.intro (keep_thru o3 (by (repeat (first | with_reducible exact Gro.refl _ | with_reducible exact Gro.refl_drew _ _ _ | with_reducible exact Gro.refl_drewN _ _ _ _ | assumption | with_reducible apply Gro.more | with_reducible apply Gro.alloc | with_reducible apply Gro.drew | with_reducible apply Gro.drewN)); done) hon (hgS _ (by omega))) (And.intro (keep_thru v0 (by (repeat (first | with_reducible exact Gro.refl _ | with_reducible exact Gro.refl_drew _ _ _ | with_reducible exact Gro.refl_drewN _ _ _ _ | assumption | with_reducible apply Gro.more | with_reducible apply Gro.alloc | with_reducible apply Gro.drew | with_reducible apply Gro.drewN)); done) hon hb5S) (And.intro (keep_thru v1 (by (repeat (first | with_reducible exact Gro.refl _ | with_reducible exact Gro.refl_drew _ _ _ | with_reducible exact Gro.refl_drewN _ _ _ _ | assumption | with_reducible apply Gro.more | with_reducible apply Gro.alloc | with_reducible apply Gro.drew | with_reducible apply Gro.drewN)); done) hon hb5S) (And.intro (keep_thru v2 (by (repeat (first | with_reducible exact Gro.refl _ | with_reducible exact Gro.refl_drew _ _ _ | with_reducible exact Gro.refl_drewN _ _ _ _ | assumption | with_reducible apply Gro.more | with_reducible apply Gro.alloc | with_reducible apply Gro.drew | with_reducible apply Gro.drewN)); done) hon hb5S) (And.intro (keep_thru v3 (by (repeat (first | with_reducible exact Gro.refl _ | with_reducible exact Gro.refl_drew _ _ _ | with_reducible exact Gro.refl_drewN _ _ _ _ | assumption | with_reducible apply Gro.more | with_reducible apply Gro.alloc | with_reducible apply Gro.drew | with_reducible apply Gro.drewN)); done) hon hb5S) (And.intro (keep_thru v4 (by (repeat (first | with_reducible exact Gro.refl _ | with_reducible exact Gro.refl_drew _ _ _ | with_reducible exact Gro.refl_drewN _ _ _ _ | assumption | with_reducible apply Gro.more | with_reducible apply Gro.alloc | with_reducible apply Gro.drew | with_reducible apply Gro.drewN)); done) hon hb5S) (And.intro (keep_thru v5 (by (repeat (first | with_reducible exact Gro.refl _ | with_reducible exact Gro.refl_drew _ _ _ | with_reducible exact Gro.refl_drewN _ _ _ _ | assumption | with_reducible apply Gro.more | with_reducible apply Gro.alloc | with_reducible apply Gro.drew | with_reducible apply Gro.drewN)); done) hon hb5S) (keep_thru v6 (by (repeat (first | with_reducible exact Gro.refl _ | with_reducible exact Gro.refl_drew _ _ _ | with_reducible exact Gro.refl_drewN _ _ _ _ | assumption | with_reducible apply Gro.more | with_reducible apply Gro.alloc | with_reducible apply Gro.drew | with_reducible apply Gro.drewN)); done) hon hb5S)))))))
              have hlo : ∀ b ∈ S7, wc.heap.size ≤ b := fun b hb' => by
                have := hGV.size
                rcases hS7 b hb' with h | h | h
                · exact hS.out b h
                · have h8 : V.heap.size ≤ b := hly b h
                  omega
                · have := hG9.size; omega
              have ho9 := only_step ho.out hG9 hon hS.out 3 (.slice A7 (k + 1) c7)
              have hb9 := set_at (i := 3) (v := .slice A7 (k + 1) c7) e7 rfl
              have hH9 := hH7.keep ((OnlyS.refl [g8] W7).setCell (p := ⟨g8, 3, none⟩) (by simp) (.slice A7 (k + 1) c7)) (fun b hb' hm => by have := hlo b hb'; simp at hm; omega)
              refine hK.out _ _ hS9 ?_
              clear hK
              try simp only [Act.put, List.setIfInBounds_toArray, List.set_cons_zero, List.set_cons_succ]
              refine AnyT.take (i := 6) (cs := [7]) rfl (by kernel_rfl) (by kernel_rfl) (by kernel_rfl) (by kernel_rfl) rfl (by kernel_rfl) (fun _ _ _ h => h) hS9 (by rfl) (by intro w hSw; (try dsimp only at hSw); go_simp; (try with_reducible rfl)) ?_
              try simp only [Act.put, List.setIfInBounds_toArray, List.set_cons_zero, List.set_cons_succ]
              obtain ⟨a0, a1, a2, a3, a4, a5, a6, af, al⟩ := row7 e7
              refine AnyT.last (by kernel_rfl) rfl (by kernel_rfl) (fun K hK => ?_)
              go_simp
              refine hK.out _ _ ?_
              clear hK
              try simp only [Act.put, List.setIfInBounds_toArray, List.set_cons_zero, List.set_cons_succ]
              generalize W7.setCell ⟨g8, 3, none⟩ (.slice A7 (k + 1) c7) = X at ho9 hb9 hH9 ⊢
              clear hS9 hon hH7 hS7 e7 hb hH ho
              have htk : x.Threads.take k ++ [y] = x.Threads.take (k + 1) := by rw [List.take_add_one, hyk]; rfl
              rw [htk] at hH9
              go_wp2_with (fail)
              go_roundw
              case measure => (simp [intOf]; try omega)
              case rel => exact ⟨k + 1, A7, c7, S7, by simp, by omega, Lib.hid ho9, Lib.hid hb9, Lib.hid hH9, Lib.hid hlo⟩
      · obtain rfl : k = x.Threads.length := by omega
        have hki : ¬ (x.Threads.length : Int) < (x.Threads.length : Int) := by omega
        have hHr := hH.out
        rw [List.take_length] at hHr
        go_wp2_with (fail)
        have h9 := set7 err (.slice B0 x.Space.Images.length d0) (.slice B1 x.Space.Bases.length d1) (.slice B2 x.Space.Entries.length d2) (.slice A x.Threads.length c) (.int .i64 x.Turn) (.int .i64 x.Left) (.int .i64 x.Slice)
        obtain ⟨r0, r1, r2, r3, r4, r5, r6, _, _⟩ := row7 h9.1
        have hYw : w.heap.size ≤ Y.heap.size := hG0.size
        have hG9 := h9.2.gro (hG0.trans hGr) (fun b hb' => by simp at hb'; omega)
        have hHs9 := (HJ.hx.keep ho.out (fun b hb' hm => by simp at hm; exact HJ.hoa (hm ▸ hb'))).keep h9.2 (fun b hb' hm => by have := HJ.la b hb'; simp at hm; omega)
        have hH9 := hHr.keep h9.2 (fun b hb' hm => by have := hS.out b hb'; simp at hm; omega)
        refine bodyPost_ret (v := .agg #[.slice B0 x.Space.Images.length d0, .slice B1 x.Space.Bases.length d1, .slice B2 x.Space.Entries.length d2, .slice A x.Threads.length c, .int .i64 x.Turn, .int .i64 x.Left, .int .i64 x.Slice]) (by simp [results, Try.results78, go_sem, r0, r1, r2, r3, r4, r5, r6]) rfl ⟨B0, d0, B1, d1, B2, d2, A, c, rfl, ⟨_, tProcess_mkOd hHs9.1 hH9.1 ht hle hsl, ?_, ?_⟩, hG9⟩
        · refine List.nodup_append.2 ⟨hHs9.2, hH9.2, fun a ha b hb' he => ?_⟩
          have h1 := hS.out b hb'
          have h2 := HJ.hx.lt a ha
          omega
        · intro b hb'
          rcases List.mem_append.1 hb' with hb' | hb'
          · have := HJ.la b hb'
            omega
          · have := hS.out b hb'
            omega

end Go.Proofs.Ytbhobjepjaeffaa
namespace Go.Proofs.Ytbhobjepjaeffaa
open Go.RowKit
def turnAt (x : DProcess) (t : Nat) (m : DMachine) (moved : Bool) : DProcess :=
  let left := (if moved = true then x.Slice else x.Left) - 1
  { x with Threads := x.Threads.set t (stepM x.Space m), Turn := if left = 0 then (((t + 1) % x.Threads.length : Nat) : Int) else (t : Int), Left := if left = 0 then x.Slice else left }
def turnGo (x : DProcess) : Nat → Nat → DProcess × Int
  | 0, _ => (x, -1)
  | f + 1, k => match x.Threads[(x.Turn.toNat + k) % x.Threads.length]? with
    | some m => if m.State = 0 then (turnAt x ((x.Turn.toNat + k) % x.Threads.length) m (decide (0 < k)), (((x.Turn.toNat + k) % x.Threads.length : Nat) : Int)) else turnGo x f (k + 1)
    | none => (x, -1)
def turnP (x : DProcess) : DProcess × Int := turnGo x x.Threads.length 0
/-- what holds of a process between two turns -/
structure PInv (N : Nat) (x : DProcess) : Prop where
  sp : spaceOk x.Space = true
  n1 : 1 ≤ x.Threads.length
  n3 : x.Threads.length ≤ 3
  t0 : 0 ≤ x.Turn
  t1 : x.Turn < x.Threads.length
  l1 : 1 ≤ x.Left
  l2 : x.Left ≤ x.Slice
  s1 : x.Slice ≤ 1000
  ms : ∀ m ∈ x.Threads, MOk N m
theorem PInv.img {N : Nat} {x : DProcess} (h : PInv N x) : x.Space.Images.length = x.Space.Bases.length ∧ (∀ i ∈ x.Space.Images, i.Code.size ≤ 1099511627776) ∧ ∀ b ∈ x.Space.Bases, btw b 1 1000000 = true := by
  have h1 := h.sp
  simp only [spaceOk, Bool.and_eq_true, decide_eq_true_eq, List.all_eq_true] at h1
  refine ⟨by omega, fun i hi => ?_, h1.1.1.2⟩
  have h2 := h1.1.1.1.2 i hi
  simp only [imageOk, Bool.and_eq_true, decide_eq_true_eq] at h2
  omega
theorem MOk.up {N : Nat} {m : DMachine} (h : MOk N m) : MOk (N + 1) m := ⟨h.len, by have := h.out; omega, h.pc, h.sp, h.fp, h.st, h.va⟩
theorem PInv.up {N : Nat} {x : DProcess} (h : PInv N x) : PInv (N + 1) x := ⟨h.sp, h.n1, h.n3, h.t0, h.t1, h.l1, h.l2, h.s1, fun m hm => (h.ms m hm).up⟩
theorem turnAt_eq {x : DProcess} {t : Nat} {m : DMachine} {moved : Bool} {left : Int} (hl : (if moved = true then x.Slice else x.Left) - 1 = left) : turnAt x t m moved = { x with Threads := x.Threads.set t (stepM x.Space m), Turn := if left = 0 then (((t + 1) % x.Threads.length : Nat) : Int) else (t : Int), Left := if left = 0 then x.Slice else left } := by
  subst hl
  rfl
theorem PInv.turn {N t : Nat} {x : DProcess} {m : DMachine} {moved : Bool} (h : PInv N x) (hm : MOk (N + 1) (stepM x.Space m)) (ht : t < x.Threads.length) : PInv (N + 1) (turnAt x t m moved) := by
  have hn : (x.Threads.set t (stepM x.Space m)).length = x.Threads.length := List.length_set
  have h1 := h.l1
  have h2 := h.l2
  have h3 := h.n1
  have h5 := h.n3
  have h4 : (t + 1) % x.Threads.length < x.Threads.length := Nat.mod_lt _ (by omega)
  obtain ⟨left, hl⟩ : ∃ l : Int, (if moved = true then x.Slice else x.Left) - 1 = l := ⟨_, rfl⟩
  have hlb : 0 ≤ left ∧ left < x.Slice := by
    cases moved with
    | true => rw [if_pos rfl] at hl; omega
    | false => rw [if_neg (by simp)] at hl; omega
  rw [turnAt_eq hl]
  have hT : 0 ≤ (if left = 0 then (((t + 1) % x.Threads.length : Nat) : Int) else (t : Int)) ∧ (if left = 0 then (((t + 1) % x.Threads.length : Nat) : Int) else (t : Int)) < (x.Threads.length : Int) := by
    split <;> omega
  have hL : 1 ≤ (if left = 0 then x.Slice else left) ∧ (if left = 0 then x.Slice else left) ≤ x.Slice := by
    split <;> omega
  refine ⟨h.sp, by rw [hn]; exact h3, by rw [hn]; exact h5, hT.1, by rw [hn]; exact hT.2, hL.1, hL.2, h.s1, fun y hy => ?_⟩
  rcases List.mem_or_eq_of_mem_set hy with hy | rfl
  · exact (h.ms y hy).up
  · exact hm
theorem turnGo_skip {x : DProcess} {f k : Nat} {m : DMachine} (hm : x.Threads[(x.Turn.toNat + k) % x.Threads.length]? = some m) (hs : ¬ m.State = 0) : turnGo x (f + 1) k = turnGo x f (k + 1) := by
  rw [turnGo, hm]
  exact if_neg hs
theorem turnGo_hit {x : DProcess} {f k : Nat} {m : DMachine} (hm : x.Threads[(x.Turn.toNat + k) % x.Threads.length]? = some m) (hs : m.State = 0) : turnGo x (f + 1) k = (turnAt x ((x.Turn.toNat + k) % x.Threads.length) m (decide (0 < k)), (((x.Turn.toNat + k) % x.Threads.length : Nat) : Int)) := by
  rw [turnGo, hm]
  exact if_pos hs
/-- a process of the call's own in a box -/
structure PSt (B : List (Nat × Obj)) (Y W : World) (gp : Nat) (x : DProcess) (A0 : Option Addr) (c0 : Nat) (A1 : Option Addr) (c1 : Nat) (A2 : Option Addr) (c2 : Nat) (A3 : Option Addr) (c3 : Nat) (S0 S3 : List Nat) : Prop where
  box : W.heap[gp]? = some (.cells #[.slice A0 x.Space.Images.length c0, .slice A1 x.Space.Bases.length c1, .slice A2 x.Space.Entries.length c2, .slice A3 x.Threads.length c3, .int .i64 x.Turn, .int .i64 x.Left, .int .i64 x.Slice] 36 (0, 0))
  sp : Has tSpace W [.slice A0 x.Space.Images.length c0, .slice A1 x.Space.Bases.length c1, .slice A2 x.Space.Entries.length c2] x.Space S0
  th : Has (tMachine.sl 80) W [.slice A3 x.Threads.length c3] x.Threads S3
  dis : ∀ b ∈ S0, b ∉ S3
  g0 : gp ∉ S0
  g3 : gp ∉ S3
  gro : Gro Y W
  lg : Y.heap.size ≤ gp
  l0 : ∀ b ∈ S0, Y.heap.size ≤ b
  l3 : ∀ b ∈ S3, Y.heap.size ≤ b
  kb : ∀ p ∈ B, W.heap[p.1]? = some p.2 ∧ p.1 ≠ gp ∧ p.1 ∉ S0 ∧ p.1 ∉ S3
section
variable {B : List (Nat × Obj)} {Y W W' : World} {gp : Nat} {x : DProcess} {A0 A1 A2 A3 : Option Addr} {c0 c1 c2 c3 : Nat} {S0 S3 : List Nat}
theorem PSt.gro' (h : PSt B Y W gp x A0 c0 A1 c1 A2 c2 A3 c3 S0 S3) (hg : Gro W W') : PSt B Y W' gp x A0 c0 A1 c1 A2 c2 A3 c3 S0 S3 :=
  ⟨grow_blk h.box hg, h.sp.gro hg, h.th.gro hg, h.dis, h.g0, h.g3, h.gro.trans hg, h.lg, h.l0, h.l3, fun p hp => ⟨grow_blk (h.kb p hp).1 hg, (h.kb p hp).2⟩⟩
theorem PSt.kept (h : PSt B Y W gp x A0 c0 A1 c1 A2 c2 A3 c3 S0 S3) {g : Nat} {o : Obj} (hp : (g, o) ∈ B) : W.heap[g]? = some o := (h.kb (g, o) hp).1
/-- Turn, Left put -/
theorem PSt.num {t l : Int} (h : PSt B Y W gp x A0 c0 A1 c1 A2 c2 A3 c3 S0 S3) {i : Nat} {v : Value}
    (hrow : ∀ a b c d e, (#[a, b, c, d, .int .i64 x.Turn, .int .i64 x.Left, e] : Array Value).setIfInBounds i v = #[a, b, c, d, .int .i64 t, .int .i64 l, e]) :
    PSt B Y (W.setCell ⟨gp, i, none⟩ v) gp { x with Turn := t, Left := l } A0 c0 A1 c1 A2 c2 A3 c3 S0 S3 := by
  have hon : OnlyS [gp] W (W.setCell ⟨gp, i, none⟩ v) := (OnlyS.refl _ _).setCell (p := ⟨gp, i, none⟩) (by simp) _
  refine ⟨set_at (i := i) (v := v) h.box (hrow _ _ _ _ _), h.sp.keep hon (fun b hb hm => h.g0 (by simp at hm; exact hm ▸ hb)), h.th.keep hon (fun b hb hm => h.g3 (by simp at hm; exact hm ▸ hb)), h.dis, h.g0, h.g3, hon.gro h.gro (fun b hb => by simp at hb; exact hb ▸ h.lg), h.lg, h.l0, h.l3, fun p hp => ?_⟩
  obtain ⟨h1, h2, h3, h4⟩ := h.kb p hp
  exact ⟨(hon.block p.1 (Array.getElem?_eq_some_iff.1 h1).1 (by simpa using h2)).trans h1, h2, h3, h4⟩
theorem PSt.thread (h : PSt B Y W gp x A0 c0 A1 c1 A2 c2 A3 c3 S0 S3) {t : Nat} {m : DMachine} (hm : x.Threads[t]? = some m) :
    ∃ gt A4 c4 A5 c5, A3 = some ⟨gt, 0, none⟩ ∧ gt < W.heap.size ∧ gt ≠ gp ∧ (∀ j, W.frozen? ⟨gt, j, none⟩ = false) ∧
      (W.cell? ⟨gt, t * 7, none⟩ = some (.int .i64 m.Pc) ∧ W.cell? ⟨gt, t * 7 + 1, none⟩ = some (.int .i64 m.Sp) ∧ W.cell? ⟨gt, t * 7 + 2, none⟩ = some (.int .i64 m.Fp) ∧ W.cell? ⟨gt, t * 7 + 3, none⟩ = some (.slice A4 m.Stack.length c4) ∧ W.cell? ⟨gt, t * 7 + 4, none⟩ = some (.slice A5 m.Out.length c5) ∧ W.cell? ⟨gt, t * 7 + 5, none⟩ = some (.int .i64 m.State) ∧ W.cell? ⟨gt, t * 7 + 6, none⟩ = some (.int .i64 m.Value)) ∧
      (intT.sl 3).R W W.heap.size [.slice A4 m.Stack.length c4] m.Stack ∧ (intT.sl 3).R W W.heap.size [.slice A5 m.Out.length c5] m.Out ∧
      ∀ w2, Gro W w2 → ∀ (y : DMachine) B0 d0 B1 d1, (Fresh tMachine W w2 [.int .i64 y.Pc, .int .i64 y.Sp, .int .i64 y.Fp, .slice B0 y.Stack.length d0, .slice B1 y.Out.length d1, .int .i64 y.State, .int .i64 y.Value] y ∨ (y = { m with State := 2 } ∧ B0 = A4 ∧ d0 = c4 ∧ B1 = A5 ∧ d1 = c5)) →
        ∃ S3', PSt B Y (((((((w2.setCell ⟨gt, t * 7, none⟩ (.int .i64 y.Pc)).setCell ⟨gt, t * 7 + 1, none⟩ (.int .i64 y.Sp)).setCell ⟨gt, t * 7 + 2, none⟩ (.int .i64 y.Fp)).setCell ⟨gt, t * 7 + 3, none⟩ (.slice B0 y.Stack.length d0)).setCell ⟨gt, t * 7 + 4, none⟩ (.slice B1 y.Out.length d1)).setCell ⟨gt, t * 7 + 5, none⟩ (.int .i64 y.State)).setCell ⟨gt, t * 7 + 6, none⟩ (.int .i64 y.Value)) gp { x with Threads := x.Threads.set t y } A0 c0 A1 c1 A2 c2 A3 c3 S0 S3' := by
  obtain ⟨gt, ec, Sc, rfl, hgS, hgl, _, _, hHm, hfr, hcell, _⟩ := own_put2 h.th hm
  obtain ⟨A4, c4, Sa, A5, c5, Sb, rfl, rfl, p0, p1, p2, o3, o4, p5, p6⟩ := tMachine_O hHm.1
  have hc : ∀ j u, [Value.int .i64 m.Pc, .int .i64 m.Sp, .int .i64 m.Fp, .slice A4 m.Stack.length c4, .slice A5 m.Out.length c5, .int .i64 m.State, .int .i64 m.Value][j]? = some u → W.cell? ⟨gt, t * 7 + j, none⟩ = some u := hcell
  refine ⟨gt, A4, c4, A5, c5, rfl, hgl, fun e => h.g3 (e ▸ hgS), hfr, ⟨hc 0 _ rfl, hc 1 _ rfl, hc 2 _ rfl, hc 3 _ rfl, hc 4 _ rfl, hc 5 _ rfl, hc 6 _ rfl⟩, Ty.read _ o3, Ty.read _ o4, fun w2 hg2 y B0 d0 B1 d1 hy => ?_⟩
  have h2 := h.gro' hg2
  obtain ⟨gt', ec', Sc', hA, hgS', hgl', _, hsub', hHm', _, hcell', hput⟩ := own_put2 h2.th hm
  injection hA with hA
  injection hA with hA
  subst hA
  obtain ⟨Sy, hSy, hdis⟩ : ∃ Sy, Has tMachine w2 [.int .i64 y.Pc, .int .i64 y.Sp, .int .i64 y.Fp, .slice B0 y.Stack.length d0, .slice B1 y.Out.length d1, .int .i64 y.State, .int .i64 y.Value] y Sy ∧ ∀ b ∈ Sy, W.heap.size ≤ b ∨ b ∈ Sc' := by
    rcases hy with hy | ⟨rfl, rfl, rfl, rfl, rfl⟩
    · obtain ⟨S, h1, h2⟩ := Fresh.has hy
      exact ⟨S, h1, fun b hb => .inl (h2 b hb)⟩
    · obtain ⟨A6, c6, Sa', A7, c7, Sb', rfl, rfl, p0', p1', p2', o3', o4', p5', p6'⟩ := tMachine_O hHm'.1
      have e3 := (hcell' 3 _ rfl).symm.trans (grow_cell hg2 (hc 3 _ rfl))
      have e4 := (hcell' 4 _ rfl).symm.trans (grow_cell hg2 (hc 4 _ rfl))
      injection e3 with e3
      injection e3 with a1 a2 a3
      injection e4 with e4
      injection e4 with b1 b2 b3
      subst a1 a3 b1 b3
      exact ⟨_, ⟨tMachine_mkOd (x := { m with State := 2 }) p0' p1' p2' o3' o4' ⟨by show (-9223372036854775808 : Int) ≤ 2; decide, by show (2 : Int) ≤ 9223372036854775807; decide⟩ p6', hHm'.2⟩, fun b hb => .inr hb⟩
  have h3lt := h.th.lt
  obtain ⟨hon, S', hS', hsub2⟩ := hput [.int .i64 y.Pc, .int .i64 y.Sp, .int .i64 y.Fp, .slice B0 y.Stack.length d0, .slice B1 y.Out.length d1, .int .i64 y.State, .int .i64 y.Value] y Sy hSy (fun b hb => by
    rcases hdis b hb with h1 | h1
    · exact .inl (fun hm => by have := h3lt b hm; omega)
    · exact .inr h1)
  have hrow : setRow w2 gt (t * tMachine.size) 0 [.int .i64 y.Pc, .int .i64 y.Sp, .int .i64 y.Fp, .slice B0 y.Stack.length d0, .slice B1 y.Out.length d1, .int .i64 y.State, .int .i64 y.Value] = (((((((w2.setCell ⟨gt, t * 7, none⟩ (.int .i64 y.Pc)).setCell ⟨gt, t * 7 + 1, none⟩ (.int .i64 y.Sp)).setCell ⟨gt, t * 7 + 2, none⟩ (.int .i64 y.Fp)).setCell ⟨gt, t * 7 + 3, none⟩ (.slice B0 y.Stack.length d0)).setCell ⟨gt, t * 7 + 4, none⟩ (.slice B1 y.Out.length d1)).setCell ⟨gt, t * 7 + 5, none⟩ (.int .i64 y.State)).setCell ⟨gt, t * 7 + 6, none⟩ (.int .i64 y.Value)) := rfl
  rw [hrow] at hon hS'
  generalize (((((((w2.setCell ⟨gt, t * 7, none⟩ (.int .i64 y.Pc)).setCell ⟨gt, t * 7 + 1, none⟩ (.int .i64 y.Sp)).setCell ⟨gt, t * 7 + 2, none⟩ (.int .i64 y.Fp)).setCell ⟨gt, t * 7 + 3, none⟩ (.slice B0 y.Stack.length d0)).setCell ⟨gt, t * 7 + 4, none⟩ (.slice B1 y.Out.length d1)).setCell ⟨gt, t * 7 + 5, none⟩ (.int .i64 y.State)).setCell ⟨gt, t * 7 + 6, none⟩ (.int .i64 y.Value)) = w3 at hon hS' ⊢
  clear hrow hput
  have hlen : (x.Threads.set t y).length = x.Threads.length := List.length_set
  have hgp : gp < W.heap.size := (Array.getElem?_eq_some_iff.1 h.box).1
  have hgt : gp ≠ gt := fun e => h.g3 (e ▸ hgS)
  have hS3 : ∀ b ∈ S', b ∈ S3 ∨ W.heap.size ≤ b := fun b hb => by
    rcases hsub2 b hb with h1 | h1
    · exact .inl h1
    · rcases hdis b h1 with h4 | h4
      · exact .inr h4
      · exact .inl (hsub' b h4)
  refine ⟨S', ⟨?_, h2.sp.keep hon (fun b hb hm => h.dis b hb (by simp at hm; exact hm ▸ hgS)), ?_, fun b hb hm => ?_, h.g0, fun hm => ?_, hon.gro h2.gro (fun b hb => by simp at hb; exact hb ▸ h.l3 gt hgS), h.lg, h.l0, fun b hb => ?_, fun p hp => ?_⟩⟩
  · rw [hlen]
    exact (hon.block gp (Array.getElem?_eq_some_iff.1 h2.box).1 (by simpa using hgt)).trans h2.box
  · rw [hlen]
    exact hS'
  · rcases hS3 b hm with h1 | h1
    · exact h.dis b hb h1
    · have := h.sp.lt b hb; omega
  · rcases hS3 gp hm with h1 | h1
    · exact h.g3 h1
    · omega
  · rcases hS3 b hb with h1 | h1
    · exact h.l3 b h1
    · have := h.gro.size; omega
  · obtain ⟨h1, h4, h5, h6⟩ := h2.kb p hp
    have h7 := (Array.getElem?_eq_some_iff.1 (h.kb p hp).1).1
    refine ⟨(hon.block p.1 (Array.getElem?_eq_some_iff.1 h1).1 (fun hm => h6 (by simp at hm; exact hm ▸ hgS))).trans h1, h4, h5, fun hm => ?_⟩
    rcases hS3 p.1 hm with h8 | h8
    · exact h6 h8
    · omega
end
end Go.Proofs.Ytbhobjepjaeffaa
