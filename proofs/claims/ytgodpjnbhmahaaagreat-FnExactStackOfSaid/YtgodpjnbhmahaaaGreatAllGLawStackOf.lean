/-
  PART 7 of the texts of this claim, one behind the other: contracts and laws that the last part uses.
-/
import Derived.Test.YtgodpjnbhmahaaaGreatAllFLawStackOf
import Derived.RangeFuncNested
import Derived.RangeFuncBound
import Derived.RangeFuncCalls
import Derived.RangeFuncLeaves
import Derived.Shelf.Abstract
import Derived.OwnWalkIn
import Derived.TacticsInMore
import Derived.LoopNIn
import Derived.LoopIn
set_option linter.unusedVariables false
set_option linter.unusedSimpArgs false
namespace Go.Proofs.YtgodpjnbhmahaaaGreat
open Go.RowKit
set_option maxRecDepth 100000 in
set_option maxHeartbeats 4000000 in
theorem framesOf_i {a : DAgent} {e : Int} {start : Bool} {w : World} {A0 A1 A2 A3 : Option Addr} {c0 c1 c2 c3 : Nat} (hA : AgentR a w A0 A1 A2 A3 c0 c1 c2 c3) (he : I64 e) :
    Calls Tryz.prog 181 #[.agg #[.slice A0 a.Space.Images.length c0, .slice A1 a.Space.Bases.length c1, .slice A2 a.Space.Entries.length c2, .slice A3 a.Debugs.length c3], .int .i64 e, .bool start] w (RetFr (framesOf a e start) w) := by
  rcases loc_two hA.sp.ok (e) with h | ⟨i, off, hi2, h, ho1, ho2⟩
  · have HL := Lib.hid h
    have HF := Lib.hid (show framesOf a e start = none from framesOf_no h)
    clear h
    go_enter Tryz.func181, Tryz.ntmps181
    go_upto_region 1 with (fail)
    have hgr : Gro w (w.alloc (.cells #[.slice A0 a.Space.Images.length c0, .slice A1 a.Space.Bases.length c1, .slice A2 a.Space.Entries.length c2, .slice A3 a.Debugs.length c3] 31)) := gG
    have eb := heap_alloc_new w (.cells #[.slice A0 a.Space.Images.length c0, .slice A1 a.Space.Bases.length c1, .slice A2 a.Space.Entries.length c2, .slice A3 a.Debugs.length c3] 31)
    obtain ⟨g0, hg0⟩ : ∃ g0, w.heap.size = g0 := ⟨_, rfl⟩
    have hwg : w.heap.size ≤ g0 := by omega
    rw [hg0] at eb ⊢
    generalize w.alloc (.cells #[.slice A0 a.Space.Images.length c0, .slice A1 a.Space.Bases.length c1, .slice A2 a.Space.Entries.length c2, .slice A3 a.Debugs.length c3] 31) = Y at hgr eb ⊢
    clear hg0
    obtain ⟨y0, y1, y2, y3, _, hgY⟩ := row4 eb
    clear eb
    go_wp2_with (go_at_call 263; (with_reducible refine (locI (s := a.Space) (e := e) (hA.sp.up hgr) he).mono ?_); rw [HL.out]; rintro e v1 ⟨rfl, hg⟩; have y0 := grow_cell hg y0; have y1 := grow_cell hg y1; have y2 := grow_cell hg y2; have y3 := grow_cell hg y3; have hgY := Nat.lt_of_lt_of_le hgY hg.size; have hgr := hgr.trans hg)
    exact bodyPost_ret (v := .tuple #[.slice none 0 0, .bool false]) (by simp [results, Tryz.results181, go_sem]) rfl (RetFr.nil HF.out hgr)
  · have HL := Lib.hid h
    have htwo := Nat.le_of_eq hA.two.symm
    have hiD : i < a.Debugs.length := by omega
    obtain ⟨gd, od, d, B0, k0, B1, k1, B2, k2, B3, k3, hAd, hgd, hdk, d0, d1, d2, d3, d4, _, hr0, hr1, hr2, hr3⟩ := atDebug hA.db hiD
    have hDR : DebugR d w B0 B1 B2 B3 k0 k1 k2 k3 := ⟨hr0, hr1, hr2, hr3, by have := hA.hn d (List.mem_of_getElem? hdk); omega⟩
    have HF := Lib.hid (show framesOf a e start = framesAt d off (start) from framesOf_at h hdk)
    have hoo : I64 off := ⟨by omega, by omega⟩
    have hi0 : ¬ ((i : Int) < 0) := by omega
    have hi1 : (0 : Int) ≤ (i : Int) := by omega
    have hi3 : (i : Int) < (a.Debugs.length : Int) := by omega
    clear h hdk htwo hi2 ho1 ho2 hiD
    subst hAd
    go_enter Tryz.func181, Tryz.ntmps181
    go_upto_region 1 with (fail)
    have hgr : Gro w (w.alloc (.cells #[.slice A0 a.Space.Images.length c0, .slice A1 a.Space.Bases.length c1, .slice A2 a.Space.Entries.length c2, .slice (some ⟨gd, od, none⟩) a.Debugs.length c3] 31)) := gG
    have eb := heap_alloc_new w (.cells #[.slice A0 a.Space.Images.length c0, .slice A1 a.Space.Bases.length c1, .slice A2 a.Space.Entries.length c2, .slice (some ⟨gd, od, none⟩) a.Debugs.length c3] 31)
    obtain ⟨g0, hg0⟩ : ∃ g0, w.heap.size = g0 := ⟨_, rfl⟩
    have hwg : w.heap.size ≤ g0 := by omega
    rw [hg0] at eb ⊢
    generalize w.alloc (.cells #[.slice A0 a.Space.Images.length c0, .slice A1 a.Space.Bases.length c1, .slice A2 a.Space.Entries.length c2, .slice (some ⟨gd, od, none⟩) a.Debugs.length c3] 31) = Y at hgr eb ⊢
    clear hg0
    obtain ⟨y0, y1, y2, y3, _, hgY⟩ := row4 eb
    clear eb
    go_wp2_with (first | (go_at_call 263; (with_reducible refine (locI (s := a.Space) (e := e) (hA.sp.up hgr) he).mono ?_); rw [HL.out]; rintro e v1 ⟨rfl, hg⟩; have y0 := grow_cell hg y0; have y1 := grow_cell hg y1; have y2 := grow_cell hg y2; have y3 := grow_cell hg y3; have hgY := Nat.lt_of_lt_of_le hgY hg.size; have hgr := hgr.trans hg; have d0 := grow_cell hgr d0; have d1 := grow_cell hgr d1; have d2 := grow_cell hgr d2; have d3 := grow_cell hgr d3; have d4 := grow_cell hgr d4) | (go_at_call 282; (with_reducible refine (framesAt_i (d := d) (off := off) (start := start) (hDR.up hgr) hoo).mono ?_); rintro e v2 ⟨AF, cF, SF, rfl, hHF, hSF, hgF⟩))
    exact bodyPost_ret (v := .tuple #[.slice AF ((framesAt d off (start)).getD []).length cF, .bool (framesAt d off (start)).isSome]) (by simp [results, Tryz.results181, go_sem]) rfl (RetFr.up (w1 := v1) (by rw [HF.out]; exact ⟨AF, cF, SF, rfl, hHF, hSF, hgF⟩) hgr)
set_option maxRecDepth 100000 in
set_option maxHeartbeats 4000000 in
theorem frames22_in {a : DAgent} {e : Int} {start : Bool} {w : World} {A0 A1 A2 A3 : Option Addr} {c0 c1 c2 c3 : Nat} (hA : AgentR a w A0 A1 A2 A3 c0 c1 c2 c3) (he : I64 e) :
    Calls Tryz.prog 94 #[.agg #[.slice A0 a.Space.Images.length c0, .slice A1 a.Space.Bases.length c1, .slice A2 a.Space.Entries.length c2, .slice A3 a.Debugs.length c3], .int .i64 e, .bool true, .bool start] w (RetFr (framesOf a e start) w) := by
  rcases loc_two hA.sp.ok (e) with h | ⟨i, off, hi2, h, ho1, ho2⟩
  · have HL := Lib.hid h
    have HF := Lib.hid (show framesOf a e start = none from framesOf_no h)
    clear h
    go_enter Tryz.func94, Tryz.ntmps94
    go_upto_region 1 with (fail)
    have hgr : Gro w (w.alloc (.cells #[.slice A0 a.Space.Images.length c0, .slice A1 a.Space.Bases.length c1, .slice A2 a.Space.Entries.length c2, .slice A3 a.Debugs.length c3] 31)) := gG
    have eb := heap_alloc_new w (.cells #[.slice A0 a.Space.Images.length c0, .slice A1 a.Space.Bases.length c1, .slice A2 a.Space.Entries.length c2, .slice A3 a.Debugs.length c3] 31)
    obtain ⟨g0, hg0⟩ : ∃ g0, w.heap.size = g0 := ⟨_, rfl⟩
    have hwg : w.heap.size ≤ g0 := by omega
    rw [hg0] at eb ⊢
    generalize w.alloc (.cells #[.slice A0 a.Space.Images.length c0, .slice A1 a.Space.Bases.length c1, .slice A2 a.Space.Entries.length c2, .slice A3 a.Debugs.length c3] 31) = Y at hgr eb ⊢
    clear hg0
    obtain ⟨y0, y1, y2, y3, _, hgY⟩ := row4 eb
    clear eb
    go_wp2_with (go_at_call 171; (with_reducible refine (locS (s := a.Space) (e := e) (hA.sp.up hgr) he).mono ?_); rw [HL.out]; rintro e v1 ⟨rfl, hg⟩; have y0 := grow_cell hg y0; have y1 := grow_cell hg y1; have y2 := grow_cell hg y2; have y3 := grow_cell hg y3; have hgY := Nat.lt_of_lt_of_le hgY hg.size; have hgr := hgr.trans hg)
    exact bodyPost_ret (v := .tuple #[.slice (some ⟨v1.heap.size, 0, none⟩) 0 0, .bool false]) (by simp [results, Tryz.results94, go_sem]) rfl (RetFr.no HF.out (Has.emp tFrame (heap_alloc_new v1 _)) (fun b hb => by simp at hb; have := hgr.size; omega) (hgr.alloc _))
  · have HL := Lib.hid h
    have htwo := Nat.le_of_eq hA.two.symm
    have hiD : i < a.Debugs.length := by omega
    obtain ⟨gd, od, d, B0, k0, B1, k1, B2, k2, B3, k3, hAd, hgd, hdk, d0, d1, d2, d3, d4, _, hr0, hr1, hr2, hr3⟩ := atDebug hA.db hiD
    have hDR : DebugR d w B0 B1 B2 B3 k0 k1 k2 k3 := ⟨hr0, hr1, hr2, hr3, by have := hA.hn d (List.mem_of_getElem? hdk); omega⟩
    have HF := Lib.hid (show framesOf a e start = framesAt d off (start) from framesOf_at h hdk)
    have hoo : I64 off := ⟨by omega, by omega⟩
    have hi0 : ¬ ((i : Int) < 0) := by omega
    have hi1 : (0 : Int) ≤ (i : Int) := by omega
    have hi3 : (i : Int) < (a.Debugs.length : Int) := by omega
    clear h hdk htwo hi2 ho1 ho2 hiD
    subst hAd
    go_enter Tryz.func94, Tryz.ntmps94
    go_upto_region 1 with (fail)
    have hgr : Gro w (w.alloc (.cells #[.slice A0 a.Space.Images.length c0, .slice A1 a.Space.Bases.length c1, .slice A2 a.Space.Entries.length c2, .slice (some ⟨gd, od, none⟩) a.Debugs.length c3] 31)) := gG
    have eb := heap_alloc_new w (.cells #[.slice A0 a.Space.Images.length c0, .slice A1 a.Space.Bases.length c1, .slice A2 a.Space.Entries.length c2, .slice (some ⟨gd, od, none⟩) a.Debugs.length c3] 31)
    obtain ⟨g0, hg0⟩ : ∃ g0, w.heap.size = g0 := ⟨_, rfl⟩
    have hwg : w.heap.size ≤ g0 := by omega
    rw [hg0] at eb ⊢
    generalize w.alloc (.cells #[.slice A0 a.Space.Images.length c0, .slice A1 a.Space.Bases.length c1, .slice A2 a.Space.Entries.length c2, .slice (some ⟨gd, od, none⟩) a.Debugs.length c3] 31) = Y at hgr eb ⊢
    clear hg0
    obtain ⟨y0, y1, y2, y3, _, hgY⟩ := row4 eb
    clear eb
    go_wp2_with (first | (go_at_call 171; (with_reducible refine (locS (s := a.Space) (e := e) (hA.sp.up hgr) he).mono ?_); rw [HL.out]; rintro e v1 ⟨rfl, hg⟩; have y0 := grow_cell hg y0; have y1 := grow_cell hg y1; have y2 := grow_cell hg y2; have y3 := grow_cell hg y3; have hgY := Nat.lt_of_lt_of_le hgY hg.size; have hgr := hgr.trans hg; have d0 := grow_cell hgr d0; have d1 := grow_cell hgr d1; have d2 := grow_cell hgr d2; have d3 := grow_cell hgr d3; have d4 := grow_cell hgr d4) | (go_at_call 184; (with_reducible refine (framesAt_s (d := d) (off := off) (start := start) (hDR.up hgr) hoo).mono ?_); rintro e v2 ⟨AF, cF, SF, rfl, hHF, hSF, hgF⟩))
    exact bodyPost_ret (v := .tuple #[.slice AF ((framesAt d off (start)).getD []).length cF, .bool (framesAt d off (start)).isSome]) (by simp [results, Tryz.results94, go_sem]) rfl (RetFr.up (w1 := v1) (by rw [HF.out]; exact ⟨AF, cF, SF, rfl, hHF, hSF, hgF⟩) hgr)
set_option maxRecDepth 100000 in
set_option maxHeartbeats 4000000 in
theorem frames22_out {a : DAgent} {e : Int} {start : Bool} {w : World} {A0 A1 A2 A3 : Option Addr} {c0 c1 c2 c3 : Nat} (hA : AgentR a w A0 A1 A2 A3 c0 c1 c2 c3) (hs : I64 e) :
    Calls Tryz.prog 94 #[.agg #[.slice A0 a.Space.Images.length c0, .slice A1 a.Space.Bases.length c1, .slice A2 a.Space.Entries.length c2, .slice A3 a.Debugs.length c3], .int .i64 e, .bool false, .bool start] w (RetFr (framesOf a (max 0 e - 1) false) w) := by
  rcases Int.lt_trichotomy e 0 with hlt | rfl | hlt
  · skip
    have hlt0 : ¬ (0 < e) := by omega
    have hF0 : framesOf a (max 0 e - 1) false = none := framesOf_low hA.sp.ok (by omega)
    have HF := Lib.hid hF0
    have h : loc a.Space (-1) = (-1, -1) := loc_no hA.sp.ok (by omega)
    have HL := Lib.hid h
    clear h hF0
    have he : I64 (-1) := ⟨by omega, by omega⟩
    have hw : wrap64 (-1) = -1 := wrap64_small (by omega) (by omega)
    go_enter Tryz.func94, Tryz.ntmps94
    go_upto_region 1 with (fail)
    have hgr : Gro w (w.alloc (.cells #[.slice A0 a.Space.Images.length c0, .slice A1 a.Space.Bases.length c1, .slice A2 a.Space.Entries.length c2, .slice A3 a.Debugs.length c3] 31)) := gG
    have eb := heap_alloc_new w (.cells #[.slice A0 a.Space.Images.length c0, .slice A1 a.Space.Bases.length c1, .slice A2 a.Space.Entries.length c2, .slice A3 a.Debugs.length c3] 31)
    obtain ⟨g0, hg0⟩ : ∃ g0, w.heap.size = g0 := ⟨_, rfl⟩
    have hwg : w.heap.size ≤ g0 := by omega
    rw [hg0] at eb ⊢
    generalize w.alloc (.cells #[.slice A0 a.Space.Images.length c0, .slice A1 a.Space.Bases.length c1, .slice A2 a.Space.Entries.length c2, .slice A3 a.Debugs.length c3] 31) = Y at hgr eb ⊢
    clear hg0
    obtain ⟨y0, y1, y2, y3, _, hgY⟩ := row4 eb
    clear eb
    go_wp2_with (go_at_call 171; (with_reducible refine (locS (s := a.Space) (e := -1) (hA.sp.up hgr) he).mono ?_); rw [HL.out]; rintro e v1 ⟨rfl, hg⟩; have y0 := grow_cell hg y0; have y1 := grow_cell hg y1; have y2 := grow_cell hg y2; have y3 := grow_cell hg y3; have hgY := Nat.lt_of_lt_of_le hgY hg.size; have hgr := hgr.trans hg)
    exact bodyPost_ret (v := .tuple #[.slice (some ⟨v1.heap.size, 0, none⟩) 0 0, .bool false]) (by simp [results, Tryz.results94, go_sem]) rfl (RetFr.no HF.out (Has.emp tFrame (heap_alloc_new v1 _)) (fun b hb => by simp at hb; have := hgr.size; omega) (hgr.alloc _))
  · skip
    have hF0 : framesOf a (max 0 0 - 1) false = none := framesOf_low hA.sp.ok (by omega)
    have HF := Lib.hid hF0
    have h : loc a.Space (-1) = (-1, -1) := loc_no hA.sp.ok (by omega)
    have HL := Lib.hid h
    clear h hF0
    have he : I64 (-1) := ⟨by omega, by omega⟩
    have hw : wrap64 (-1) = -1 := wrap64_small (by omega) (by omega)
    go_enter Tryz.func94, Tryz.ntmps94
    go_upto_region 1 with (fail)
    have hgr : Gro w (w.alloc (.cells #[.slice A0 a.Space.Images.length c0, .slice A1 a.Space.Bases.length c1, .slice A2 a.Space.Entries.length c2, .slice A3 a.Debugs.length c3] 31)) := gG
    have eb := heap_alloc_new w (.cells #[.slice A0 a.Space.Images.length c0, .slice A1 a.Space.Bases.length c1, .slice A2 a.Space.Entries.length c2, .slice A3 a.Debugs.length c3] 31)
    obtain ⟨g0, hg0⟩ : ∃ g0, w.heap.size = g0 := ⟨_, rfl⟩
    have hwg : w.heap.size ≤ g0 := by omega
    rw [hg0] at eb ⊢
    generalize w.alloc (.cells #[.slice A0 a.Space.Images.length c0, .slice A1 a.Space.Bases.length c1, .slice A2 a.Space.Entries.length c2, .slice A3 a.Debugs.length c3] 31) = Y at hgr eb ⊢
    clear hg0
    obtain ⟨y0, y1, y2, y3, _, hgY⟩ := row4 eb
    clear eb
    go_wp2_with (go_at_call 171; (with_reducible refine (locS (s := a.Space) (e := -1) (hA.sp.up hgr) he).mono ?_); rw [HL.out]; rintro e v1 ⟨rfl, hg⟩; have y0 := grow_cell hg y0; have y1 := grow_cell hg y1; have y2 := grow_cell hg y2; have y3 := grow_cell hg y3; have hgY := Nat.lt_of_lt_of_le hgY hg.size; have hgr := hgr.trans hg)
    exact bodyPost_ret (v := .tuple #[.slice (some ⟨v1.heap.size, 0, none⟩) 0 0, .bool false]) (by simp [results, Tryz.results94, go_sem]) rfl (RetFr.no HF.out (Has.emp tFrame (heap_alloc_new v1 _)) (fun b hb => by simp at hb; have := hgr.size; omega) (hgr.alloc _))
  · have hlt0 : ¬ (e < 0) := by omega
    have he : I64 (e - 1) := ⟨by have := hs.1; omega, by have := hs.2; omega⟩
    have hw : wrap64 (e - 1) = e - 1 := wrap64_small he.1 he.2
    rw [show max 0 e = e from by omega]
    rcases loc_two hA.sp.ok (e - 1) with h | ⟨i, off, hi2, h, ho1, ho2⟩
    · have HL := Lib.hid h
      have HF := Lib.hid (show framesOf a (e - 1) false = none from framesOf_no h)
      clear h
      go_enter Tryz.func94, Tryz.ntmps94
      go_upto_region 1 with (fail)
      have hgr : Gro w (w.alloc (.cells #[.slice A0 a.Space.Images.length c0, .slice A1 a.Space.Bases.length c1, .slice A2 a.Space.Entries.length c2, .slice A3 a.Debugs.length c3] 31)) := gG
      have eb := heap_alloc_new w (.cells #[.slice A0 a.Space.Images.length c0, .slice A1 a.Space.Bases.length c1, .slice A2 a.Space.Entries.length c2, .slice A3 a.Debugs.length c3] 31)
      obtain ⟨g0, hg0⟩ : ∃ g0, w.heap.size = g0 := ⟨_, rfl⟩
      have hwg : w.heap.size ≤ g0 := by omega
      rw [hg0] at eb ⊢
      generalize w.alloc (.cells #[.slice A0 a.Space.Images.length c0, .slice A1 a.Space.Bases.length c1, .slice A2 a.Space.Entries.length c2, .slice A3 a.Debugs.length c3] 31) = Y at hgr eb ⊢
      clear hg0
      obtain ⟨y0, y1, y2, y3, _, hgY⟩ := row4 eb
      clear eb
      go_wp2_with (go_at_call 171; (with_reducible refine (locS (s := a.Space) (e := e - 1) (hA.sp.up hgr) he).mono ?_); rw [HL.out]; rintro e v1 ⟨rfl, hg⟩; have y0 := grow_cell hg y0; have y1 := grow_cell hg y1; have y2 := grow_cell hg y2; have y3 := grow_cell hg y3; have hgY := Nat.lt_of_lt_of_le hgY hg.size; have hgr := hgr.trans hg)
      exact bodyPost_ret (v := .tuple #[.slice (some ⟨v1.heap.size, 0, none⟩) 0 0, .bool false]) (by simp [results, Tryz.results94, go_sem]) rfl (RetFr.no HF.out (Has.emp tFrame (heap_alloc_new v1 _)) (fun b hb => by simp at hb; have := hgr.size; omega) (hgr.alloc _))
    · have HL := Lib.hid h
      have htwo := Nat.le_of_eq hA.two.symm
      have hiD : i < a.Debugs.length := by omega
      obtain ⟨gd, od, d, B0, k0, B1, k1, B2, k2, B3, k3, hAd, hgd, hdk, d0, d1, d2, d3, d4, _, hr0, hr1, hr2, hr3⟩ := atDebug hA.db hiD
      have hDR : DebugR d w B0 B1 B2 B3 k0 k1 k2 k3 := ⟨hr0, hr1, hr2, hr3, by have := hA.hn d (List.mem_of_getElem? hdk); omega⟩
      have HF := Lib.hid (show framesOf a (e - 1) false = framesAt d off (false) from framesOf_at h hdk)
      have hoo : I64 off := ⟨by omega, by omega⟩
      have hi0 : ¬ ((i : Int) < 0) := by omega
      have hi1 : (0 : Int) ≤ (i : Int) := by omega
      have hi3 : (i : Int) < (a.Debugs.length : Int) := by omega
      clear h hdk htwo hi2 ho1 ho2 hiD
      subst hAd
      go_enter Tryz.func94, Tryz.ntmps94
      go_upto_region 1 with (fail)
      have hgr : Gro w (w.alloc (.cells #[.slice A0 a.Space.Images.length c0, .slice A1 a.Space.Bases.length c1, .slice A2 a.Space.Entries.length c2, .slice (some ⟨gd, od, none⟩) a.Debugs.length c3] 31)) := gG
      have eb := heap_alloc_new w (.cells #[.slice A0 a.Space.Images.length c0, .slice A1 a.Space.Bases.length c1, .slice A2 a.Space.Entries.length c2, .slice (some ⟨gd, od, none⟩) a.Debugs.length c3] 31)
      obtain ⟨g0, hg0⟩ : ∃ g0, w.heap.size = g0 := ⟨_, rfl⟩
      have hwg : w.heap.size ≤ g0 := by omega
      rw [hg0] at eb ⊢
      generalize w.alloc (.cells #[.slice A0 a.Space.Images.length c0, .slice A1 a.Space.Bases.length c1, .slice A2 a.Space.Entries.length c2, .slice (some ⟨gd, od, none⟩) a.Debugs.length c3] 31) = Y at hgr eb ⊢
      clear hg0
      obtain ⟨y0, y1, y2, y3, _, hgY⟩ := row4 eb
      clear eb
      go_wp2_with (first | (go_at_call 171; (with_reducible refine (locS (s := a.Space) (e := e - 1) (hA.sp.up hgr) he).mono ?_); rw [HL.out]; rintro e v1 ⟨rfl, hg⟩; have y0 := grow_cell hg y0; have y1 := grow_cell hg y1; have y2 := grow_cell hg y2; have y3 := grow_cell hg y3; have hgY := Nat.lt_of_lt_of_le hgY hg.size; have hgr := hgr.trans hg; have d0 := grow_cell hgr d0; have d1 := grow_cell hgr d1; have d2 := grow_cell hgr d2; have d3 := grow_cell hgr d3; have d4 := grow_cell hgr d4) | (go_at_call 184; (with_reducible refine (framesAt_s (d := d) (off := off) (start := false) (hDR.up hgr) hoo).mono ?_); rintro e v2 ⟨AF, cF, SF, rfl, hHF, hSF, hgF⟩))
      exact bodyPost_ret (v := .tuple #[.slice AF ((framesAt d off (false)).getD []).length cF, .bool (framesAt d off (false)).isSome]) (by simp [results, Tryz.results94, go_sem]) rfl (RetFr.up (w1 := v1) (by rw [HF.out]; exact ⟨AF, cF, SF, rfl, hHF, hSF, hgF⟩) hgr)
end Go.Proofs.YtgodpjnbhmahaaaGreat
namespace Go.Proofs.YtgodpjnbhmahaaaGreat
open Go.RowKit
theorem elFrS : Elem Tryz.prog 138 54 (tFrame.sl 59) 24 := by
  refine ⟨Tryz.underlying138, ?_, by decide⟩
  have h : (Tryz.prog.info? 54).map (fun i => (i.zero, i.size, i.bytes)) = some (some (.slice none 0 0), 1, 24) := by kernel_rfl
  cases hi : Tryz.prog.info? 54 with
  | none => rw [hi] at h; simp at h
  | some i =>
    rw [hi] at h
    simp only [Option.map_some, Option.some.injEq, Prod.mk.injEq] at h
    exact ⟨i, _, rfl, h.1, h.2.1, h.2.2, rfl⟩
def RetKn (xs : List (List DFrame)) (w : World) (r : Ending) (w' : World) : Prop := ∃ A c S, r = .returned (.slice A xs.length c) ∧ Has ((tFrame.sl 59).sl 54) w' [.slice A xs.length c] xs S ∧ (∀ b ∈ S, w.heap.size ≤ b) ∧ Gro w w'
theorem RetKn.mk {xs ys : List (List DFrame)} {w w' : World} {A : Option Addr} {n c : Nat} {S : List Nat} (h : Has ((tFrame.sl 59).sl 54) w' [.slice A n c] ys S) (he : ys = xs) (hn : n = ys.length) (hS : ∀ b ∈ S, w.heap.size ≤ b) (hg : Gro w w') : RetKn xs w (.returned (.slice A n c)) w' := by
  subst he hn
  exact ⟨A, c, S, rfl, h, hS, hg⟩
set_option maxRecDepth 100000 in
set_option maxHeartbeats 4000000 in
theorem known_i {a : DAgent} {es : List Int} {start : Bool} {w : World} {A0 A1 A2 A3 A : Option Addr} {c0 c1 c2 c3 c : Nat} (hA : AgentR a w A0 A1 A2 A3 c0 c1 c2 c3) (hx : (intT.sl 3).R w w.heap.size [.slice A es.length c] es) (hl : es.length ≤ 1000) (hsm : ∀ e ∈ es, Small e) :
    Calls Tryz.prog 89 #[.agg #[.slice A0 a.Space.Images.length c0, .slice A1 a.Space.Bases.length c1, .slice A2 a.Space.Entries.length c2, .slice A3 a.Debugs.length c3], .slice A es.length c, .bool start] w (RetKn (knownGo a start es 0) w) := by
  obtain ⟨_, _, hx', h1, h2⟩ := sl_at hx
  injection hx' with e1 e2 e3
  subst e1 e3
  clear e2
  go_enter Tryz.func89, Tryz.ntmps89
  go_upto_region 1 with (fail)
  have hgY0 : Gro w (w.alloc (.cells #[.slice A0 a.Space.Images.length c0, .slice A1 a.Space.Bases.length c1, .slice A2 a.Space.Entries.length c2, .slice A3 a.Debugs.length c3] 31)) := gG
  have eb := heap_alloc_new w (.cells #[.slice A0 a.Space.Images.length c0, .slice A1 a.Space.Bases.length c1, .slice A2 a.Space.Entries.length c2, .slice A3 a.Debugs.length c3] 31)
  obtain ⟨g0, hg0⟩ : ∃ g0, w.heap.size = g0 := ⟨_, rfl⟩
  have hwg : w.heap.size ≤ g0 := by omega
  rw [hg0] at eb ⊢
  generalize w.alloc (.cells #[.slice A0 a.Space.Images.length c0, .slice A1 a.Space.Bases.length c1, .slice A2 a.Space.Entries.length c2, .slice A3 a.Debugs.length c3] 31) = Y at hgY0 eb ⊢
  clear hg0
  go_wp2_with (fail)
  go_loopw [7, 15] (fun z q wr => ∃ (k : Nat) (ys : List (List DFrame)) (A7 : Option Addr) (c7 : Nat) (S : List Nat), z = .slice A7 ys.length c7 ∧ q = .int .i64 k ∧ k ≤ es.length ∧ Hid (ys.length = k) ∧ Hid (Gro w wr) ∧ Hid (wr.heap[g0]? = some (.cells #[.slice A0 a.Space.Images.length c0, .slice A1 a.Space.Bases.length c1, .slice A2 a.Space.Entries.length c2, .slice A3 a.Debugs.length c3] 31 (0, 0))) ∧ Hid (Has ((tFrame.sl 59).sl 54) wr [.slice A7 ys.length c7] ys S) ∧ Hid (∀ b ∈ S, g0 < b) ∧ Hid (ys ++ knownGo a start (es.drop k) k = knownGo a start es 0)) (fun _ q _ => es.length - (intOf q).toNat)
  case atStart =>
    exact ⟨0, [], _, 0, [Y.heap.size], rfl, rfl, Nat.zero_le _, Lib.hid rfl, Lib.hid (hgY0.trans gG), Lib.hid (grow_blk eb gF), Lib.hid (Has.emp (tFrame.sl 59) (heap_alloc_new _ _)), Lib.hid (fun b hb => by simp at hb; have := (Array.getElem?_eq_some_iff.1 eb).1; omega), Lib.hid (by simp)⟩
  case round =>
    obtain ⟨k, ys, A7, c7, S, rfl, rfl, hk0', hyk, hG, hB, hH, hSg, hE⟩ := hrel
    have hS : Hid (∀ b ∈ S, w.heap.size ≤ b) := Lib.hid (fun b hb => by have := hSg.out b hb; omega)
    have hyl : ys.length ≤ 1000 := by have := hyk.out; omega
    by_cases hlt : k < es.length
    · obtain ⟨g, offx, e, hA, hxk, xc, bs1, bs2⟩ := ints_at hx hlt
      have HX := Lib.hid hxk
      have hsm := hsm e (List.mem_of_getElem? hxk)
      have xc := grow_cell hG.out xc
      obtain ⟨y0, y1, y2, y3, _, _⟩ := row4 hB.out
      have hki : (k : Int) < (es.length : Int) := by omega
      have hg0r : g0 < wr.heap.size := (Array.getElem?_eq_some_iff.1 hB.out).1
      clear hxk
      subst hA
      by_cases hk : k = 0
      · cases start with
        | true =>
          have hei : I64 e := hsm.i64
          have hfe : fAt a true k e = framesOf a e true := by unfold fAt; rw [if_pos hk]; simp [hk]
          have hkn : ¬ ((0 : Int) < (k : Int)) := by omega
          have hkb : ((k : Int) == 0) = true := beq_iff_eq.2 (by omega)
          clear hk
          obtain ⟨o, ho⟩ : ∃ o, framesOf a e true = o := ⟨_, rfl⟩
          have HO := Lib.hid ho
          rw [ho] at hfe
          clear ho
          cases o with
          | none =>
            have HE : Hid (knownGo a true es 0 = ys) := Lib.hid (by rw [← hE.out, knownGo_no HX.out hfe, List.append_nil])
            clear hfe
            go_wp2_with (first | (go_at_call 181; (with_reducible refine (framesOf_i (a := a) (e := e) (start := true) (hA.up (hG.out.trans gF)) hei).mono ?_); rw [HO.out]; rintro r v2 ⟨AF, cF, SF, rfl, hHF, hSF, hgF⟩))
            exact bodyPost_ret (v := .slice A7 ys.length c7) (by simp [results, Tryz.results89, go_sem]) rfl (RetKn.mk (hH.out.gro (Gro.trans gF hgF)) HE.out.symm rfl hS.out (hG.out.trans (Gro.trans gF hgF)))
          | some fr =>
            have HF := Lib.hid (knownGo_yes HX.out hfe)
            have HLF := Lib.hid (fAt_len hA.hn hfe)
            clear hfe
            go_wp2_with (first | (go_at_call 181; (with_reducible refine (framesOf_i (a := a) (e := e) (start := true) (hA.up (hG.out.trans gF)) hei).mono ?_); rw [HO.out]; rintro r v2 ⟨AF, cF, SF, rfl, hHF, hSF, hgF⟩) | (refine wpList_append_has (L := ys.length + 1) (y := fr) rfl (.tmp 37) (.tmp 39) elFrS (S := S) (Sy := SF) (hH.out.gro (Gro.trans (b := v2) (Gro.trans (b := _) gF hgF) gF)) (ec := [.slice AF fr.length cF]) (Has.gro (W := v2) (x := fr) hHF gF) (fun b hb hm => by have h1 := hH.out.lt b hb; have h2 := hSF b hm; (try simp at h2); omega) rfl rfl rfl (by intro j u hu; simpa [go_sem] using hu) rfl (by omega) (by omega) ?_; intro A8 c8 W8 S8 hon hH8 hS8))
            go_roundw
            case measure => (simp [intOf]; try omega)
            case rel =>
              have hg9 : Gro wr (v2.alloc (.cells #[.slice AF fr.length cF] 54)) := Gro.trans (b := v2) (Gro.trans (b := _) gF hgF) gF
              have hw2 : wr.heap.size ≤ v2.heap.size := (Gro.trans (b := _) gF hgF : Gro wr v2).size
              refine ⟨k + 1, ys ++ [fr], A8, c8, S8, by simp, by go_num, by omega, Lib.hid (by rw [List.length_append, hyk.out]; rfl), Lib.hid (hon.gro (hG.out.trans hg9) hS.out), Lib.hid (frz_thru hB.out hg9 hon (fun hm => by have := hSg.out _ hm; omega)), Lib.hid (by simpa using hH8), Lib.hid (fun b hb => ?_), Lib.hid (by rw [← hE.out, HF.out]; simp)⟩
              rcases hS8 b hb with h | h | h
              · exact hSg.out b h
              · have := hSF b h; (try simp at this); omega
              · simp at h; omega
        | false =>
          have hei : I64 e := hsm.i64
          have hfe : fAt a false k e = framesOf a e false := by unfold fAt; rw [if_pos hk]; simp [hk]
          have hkn : ¬ ((0 : Int) < (k : Int)) := by omega
          have hkb : ((k : Int) == 0) = true := beq_iff_eq.2 (by omega)
          clear hk
          obtain ⟨o, ho⟩ : ∃ o, framesOf a e false = o := ⟨_, rfl⟩
          have HO := Lib.hid ho
          rw [ho] at hfe
          clear ho
          cases o with
          | none =>
            have HE : Hid (knownGo a false es 0 = ys) := Lib.hid (by rw [← hE.out, knownGo_no HX.out hfe, List.append_nil])
            clear hfe
            go_wp2_with (first | (go_at_call 181; (with_reducible refine (framesOf_i (a := a) (e := e) (start := false) (hA.up (hG.out.trans gF)) hei).mono ?_); rw [HO.out]; rintro r v2 ⟨AF, cF, SF, rfl, hHF, hSF, hgF⟩))
            exact bodyPost_ret (v := .slice A7 ys.length c7) (by simp [results, Tryz.results89, go_sem]) rfl (RetKn.mk (hH.out.gro (Gro.trans gF hgF)) HE.out.symm rfl hS.out (hG.out.trans (Gro.trans gF hgF)))
          | some fr =>
            have HF := Lib.hid (knownGo_yes HX.out hfe)
            have HLF := Lib.hid (fAt_len hA.hn hfe)
            clear hfe
            go_wp2_with (first | (go_at_call 181; (with_reducible refine (framesOf_i (a := a) (e := e) (start := false) (hA.up (hG.out.trans gF)) hei).mono ?_); rw [HO.out]; rintro r v2 ⟨AF, cF, SF, rfl, hHF, hSF, hgF⟩) | (refine wpList_append_has (L := ys.length + 1) (y := fr) rfl (.tmp 37) (.tmp 39) elFrS (S := S) (Sy := SF) (hH.out.gro (Gro.trans (b := v2) (Gro.trans (b := _) gF hgF) gF)) (ec := [.slice AF fr.length cF]) (Has.gro (W := v2) (x := fr) hHF gF) (fun b hb hm => by have h1 := hH.out.lt b hb; have h2 := hSF b hm; (try simp at h2); omega) rfl rfl rfl (by intro j u hu; simpa [go_sem] using hu) rfl (by omega) (by omega) ?_; intro A8 c8 W8 S8 hon hH8 hS8))
            go_roundw
            case measure => (simp [intOf]; try omega)
            case rel =>
              have hg9 : Gro wr (v2.alloc (.cells #[.slice AF fr.length cF] 54)) := Gro.trans (b := v2) (Gro.trans (b := _) gF hgF) gF
              have hw2 : wr.heap.size ≤ v2.heap.size := (Gro.trans (b := _) gF hgF : Gro wr v2).size
              refine ⟨k + 1, ys ++ [fr], A8, c8, S8, by simp, by go_num, by omega, Lib.hid (by rw [List.length_append, hyk.out]; rfl), Lib.hid (hon.gro (hG.out.trans hg9) hS.out), Lib.hid (frz_thru hB.out hg9 hon (fun hm => by have := hSg.out _ hm; omega)), Lib.hid (by simpa using hH8), Lib.hid (fun b hb => ?_), Lib.hid (by rw [← hE.out, HF.out]; simp)⟩
              rcases hS8 b hb with h | h | h
              · exact hSg.out b h
              · have := hSF b h; (try simp at this); omega
              · simp at h; omega
      · cases start with
        | true =>
          have hei : I64 (e - 1) := ⟨by have := hsm.1; omega, by have := hsm.2; omega⟩
          have hew : IntKind.i64.wrap (e - 1) = e - 1 := IntWalk.i64_in _ hei
          have hk0 : (0 : Int) < (k : Int) := by omega
          have hkn : ((k : Int) == 0) = false := beq_eq_false_iff_ne.2 (by omega)
          have hfe : fAt a true k e = framesOf a (e - 1) false := by unfold fAt; rw [if_neg hk]; simp [hk]
          clear hk
          obtain ⟨o, ho⟩ : ∃ o, framesOf a (e - 1) false = o := ⟨_, rfl⟩
          have HO := Lib.hid ho
          rw [ho] at hfe
          clear ho
          cases o with
          | none =>
            have HE : Hid (knownGo a true es 0 = ys) := Lib.hid (by rw [← hE.out, knownGo_no HX.out hfe, List.append_nil])
            clear hfe
            go_wp2_with (first | (go_at_call 181; (with_reducible refine (framesOf_i (a := a) (e := (e - 1)) (start := false) (hA.up (hG.out.trans gF)) hei).mono ?_); rw [HO.out]; rintro r v2 ⟨AF, cF, SF, rfl, hHF, hSF, hgF⟩))
            exact bodyPost_ret (v := .slice A7 ys.length c7) (by simp [results, Tryz.results89, go_sem]) rfl (RetKn.mk (hH.out.gro (Gro.trans gF hgF)) HE.out.symm rfl hS.out (hG.out.trans (Gro.trans gF hgF)))
          | some fr =>
            have HF := Lib.hid (knownGo_yes HX.out hfe)
            have HLF := Lib.hid (fAt_len hA.hn hfe)
            clear hfe
            go_wp2_with (first | (go_at_call 181; (with_reducible refine (framesOf_i (a := a) (e := (e - 1)) (start := false) (hA.up (hG.out.trans gF)) hei).mono ?_); rw [HO.out]; rintro r v2 ⟨AF, cF, SF, rfl, hHF, hSF, hgF⟩) | (refine wpList_append_has (L := ys.length + 1) (y := fr) rfl (.tmp 37) (.tmp 39) elFrS (S := S) (Sy := SF) (hH.out.gro (Gro.trans (b := v2) (Gro.trans (b := _) gF hgF) gF)) (ec := [.slice AF fr.length cF]) (Has.gro (W := v2) (x := fr) hHF gF) (fun b hb hm => by have h1 := hH.out.lt b hb; have h2 := hSF b hm; (try simp at h2); omega) rfl rfl rfl (by intro j u hu; simpa [go_sem] using hu) rfl (by omega) (by omega) ?_; intro A8 c8 W8 S8 hon hH8 hS8))
            go_roundw
            case measure => (simp [intOf]; try omega)
            case rel =>
              have hg9 : Gro wr (v2.alloc (.cells #[.slice AF fr.length cF] 54)) := Gro.trans (b := v2) (Gro.trans (b := _) gF hgF) gF
              have hw2 : wr.heap.size ≤ v2.heap.size := (Gro.trans (b := _) gF hgF : Gro wr v2).size
              refine ⟨k + 1, ys ++ [fr], A8, c8, S8, by simp, by go_num, by omega, Lib.hid (by rw [List.length_append, hyk.out]; rfl), Lib.hid (hon.gro (hG.out.trans hg9) hS.out), Lib.hid (frz_thru hB.out hg9 hon (fun hm => by have := hSg.out _ hm; omega)), Lib.hid (by simpa using hH8), Lib.hid (fun b hb => ?_), Lib.hid (by rw [← hE.out, HF.out]; simp)⟩
              rcases hS8 b hb with h | h | h
              · exact hSg.out b h
              · have := hSF b h; (try simp at this); omega
              · simp at h; omega
        | false =>
          have hei : I64 (e - 1) := ⟨by have := hsm.1; omega, by have := hsm.2; omega⟩
          have hew : IntKind.i64.wrap (e - 1) = e - 1 := IntWalk.i64_in _ hei
          have hk0 : (0 : Int) < (k : Int) := by omega
          have hkn : ((k : Int) == 0) = false := beq_eq_false_iff_ne.2 (by omega)
          have hfe : fAt a false k e = framesOf a (e - 1) false := by unfold fAt; rw [if_neg hk]; simp [hk]
          clear hk
          obtain ⟨o, ho⟩ : ∃ o, framesOf a (e - 1) false = o := ⟨_, rfl⟩
          have HO := Lib.hid ho
          rw [ho] at hfe
          clear ho
          cases o with
          | none =>
            have HE : Hid (knownGo a false es 0 = ys) := Lib.hid (by rw [← hE.out, knownGo_no HX.out hfe, List.append_nil])
            clear hfe
            go_wp2_with (first | (go_at_call 181; (with_reducible refine (framesOf_i (a := a) (e := (e - 1)) (start := false) (hA.up (hG.out.trans gF)) hei).mono ?_); rw [HO.out]; rintro r v2 ⟨AF, cF, SF, rfl, hHF, hSF, hgF⟩))
            exact bodyPost_ret (v := .slice A7 ys.length c7) (by simp [results, Tryz.results89, go_sem]) rfl (RetKn.mk (hH.out.gro (Gro.trans gF hgF)) HE.out.symm rfl hS.out (hG.out.trans (Gro.trans gF hgF)))
          | some fr =>
            have HF := Lib.hid (knownGo_yes HX.out hfe)
            have HLF := Lib.hid (fAt_len hA.hn hfe)
            clear hfe
            go_wp2_with (first | (go_at_call 181; (with_reducible refine (framesOf_i (a := a) (e := (e - 1)) (start := false) (hA.up (hG.out.trans gF)) hei).mono ?_); rw [HO.out]; rintro r v2 ⟨AF, cF, SF, rfl, hHF, hSF, hgF⟩) | (refine wpList_append_has (L := ys.length + 1) (y := fr) rfl (.tmp 37) (.tmp 39) elFrS (S := S) (Sy := SF) (hH.out.gro (Gro.trans (b := v2) (Gro.trans (b := _) gF hgF) gF)) (ec := [.slice AF fr.length cF]) (Has.gro (W := v2) (x := fr) hHF gF) (fun b hb hm => by have h1 := hH.out.lt b hb; have h2 := hSF b hm; (try simp at h2); omega) rfl rfl rfl (by intro j u hu; simpa [go_sem] using hu) rfl (by omega) (by omega) ?_; intro A8 c8 W8 S8 hon hH8 hS8))
            go_roundw
            case measure => (simp [intOf]; try omega)
            case rel =>
              have hg9 : Gro wr (v2.alloc (.cells #[.slice AF fr.length cF] 54)) := Gro.trans (b := v2) (Gro.trans (b := _) gF hgF) gF
              have hw2 : wr.heap.size ≤ v2.heap.size := (Gro.trans (b := _) gF hgF : Gro wr v2).size
              refine ⟨k + 1, ys ++ [fr], A8, c8, S8, by simp, by go_num, by omega, Lib.hid (by rw [List.length_append, hyk.out]; rfl), Lib.hid (hon.gro (hG.out.trans hg9) hS.out), Lib.hid (frz_thru hB.out hg9 hon (fun hm => by have := hSg.out _ hm; omega)), Lib.hid (by simpa using hH8), Lib.hid (fun b hb => ?_), Lib.hid (by rw [← hE.out, HF.out]; simp)⟩
              rcases hS8 b hb with h | h | h
              · exact hSg.out b h
              · have := hSF b h; (try simp at this); omega
              · simp at h; omega
    · have hki : ¬ ((k : Int) < (es.length : Int)) := by omega
      have HE2 : Hid (knownGo a start es 0 = ys) := Lib.hid (by have h := hE.out; rw [show k = es.length from by omega, List.drop_length] at h; rw [← h]; simp [knownGo])
      go_wp2_with (fail)
      exact bodyPost_ret (v := .slice A7 ys.length c7) (by simp [results, Tryz.results89, go_sem]) rfl (RetKn.mk hH.out HE2.out.symm rfl hS.out (hG.out.trans gG))
end Go.Proofs.YtgodpjnbhmahaaaGreat
namespace Go.Proofs.YtgodpjnbhmahaaaGreat
open Go.RowKit Go.Shelf
attribute [local go_sem] Oper.semAt_some
/-- an element as yield is handed it: its index, the list's slice, its frames -/
structure Fel (w : World) where
  i : Nat
  A : Option Addr
  c : Nat
  xs : List DFrame
  h : (tFrame.sl 59).R w w.heap.size [.slice A xs.length c] xs
  hl : xs.length ≤ 1048577
def Fel.encs {w : World} (x : Fel w) : Array Value := #[.int .i64 (x.i : Int), .slice x.A x.xs.length x.c]
def Fel.none (w : World) : Fel w := ⟨0, .none, 0, [], ⟨.none, 0, rfl, Nat.le_refl _, by simp, fun _ => rfl, fun h => by simp at h⟩, by simp⟩
/-- what has come when m rounds are over, the last one first -/
def Fel.upto {w : World} (f : Nat → Fel w) (n m : Nat) : List (Fel w) := (List.range m).map fun j => f (n - 1 - j)
theorem Fel.upto_succ {w : World} (f : Nat → Fel w) (n m : Nat) : Fel.upto f n (m + 1) = Fel.upto f n m ++ [f (n - 1 - m)] := by simp [Fel.upto, List.range_succ]
theorem Fel.upto_length {w : World} (f : Nat → Fel w) (n m : Nat) : (Fel.upto f n m).length = m := by simp [Fel.upto]
set_option maxRecDepth 100000 in
set_option maxHeartbeats 2000000 in
theorem back1_in (F : Fence) (n : Nat) (h7 : F.fn 283) (hro : F.round = none) (hn : 1 ≤ n) (l Bs n₀ : Nat) (A : Option Addr) (len cap : Nat) (w0 : World) (f : Nat → Fel w0) (hlen : len ≤ 1048577) (hf : ∀ j, j < len → (f j).i = j) (Kp : World → World → Prop) (hK1 : ∀ X Y v, Kp X Y → X.cell? ⟨Bs, 0, none⟩ = some v → Y.cell? ⟨Bs, 0, none⟩ = some v) (hK2 : ∀ X Y b i v, Kp X Y → b < n₀ → X.cell? ⟨b, i, none⟩ = some v → Y.cell? ⟨b, i, none⟩ = some v) (J Jx : List (Fel w0) → World → Prop)
    (hY : ∀ pre x W, J pre W → pre.length < len → YieldAt F (n - 1) Tryz.prog l x.encs W fun e W' =>
      (e = .returned (.bool true) ∧ J (pre ++ [x]) W' ∧ Kp W W') ∨ (e = .returned (.bool false) ∧ Jx (pre ++ [x]) W'))
    (W : World) (hBs : W.cell? ⟨Bs, 0, none⟩ = some (.slice A len cap)) (hc : ∀ j, j < len → ∃ b off, A = some ⟨b, off, none⟩ ∧ b < n₀ ∧ W.cell? ⟨b, off + j, none⟩ = some (.slice (f j).A (f j).xs.length (f j).c)) (h0 : J [] W) :
    CallsIn F n Tryz.prog 283 #[.func (.yield l) #[] #[], .pointer (some ⟨Bs, 0, none⟩)] W fun e W' => (∃ v, e = .returned v) ∧
      ((∃ ys, ys = Fel.upto f len len ∧ J ys W') ∨ (∃ pre, (∃ k, k ≤ len ∧ pre = Fel.upto f len k) ∧ Jx pre W')) := by
  refine callsIn_of_wp Tryz.func283 rfl h7 ?_ hro
  simp only [Tryz.ntmps283, List.size_toArray, List.length_cons, List.length_nil, Nat.reduceAdd, Nat.reduceSub, Array.replicate_succ, Array.replicate_zero, List.push_toArray, List.append_toArray, List.nil_append, List.cons_append]
  have hlw : IntKind.i64.wrap ((len : Int) - 1) = (len : Int) - 1 := IntWalk.i64_in _ ⟨by omega, by omega⟩
  gi_wp2
  gi_loopw [3] (fun i wr => ∃ (m : Nat) (k : Int), m ≤ len ∧ k = (len : Int) - 1 - m ∧ i = .int .i64 k ∧ J (Fel.upto f len m) wr ∧ wr.cell? ⟨Bs, 0, none⟩ = some (.slice A len cap) ∧ ∀ j, j < len → ∃ b off, A = some ⟨b, off, none⟩ ∧ b < n₀ ∧ wr.cell? ⟨b, off + j, none⟩ = some (.slice (f j).A (f j).xs.length (f j).c))
    (fun i _ => (intOf i + 1).toNat)
  case atStart => exact ⟨0, _, Nat.zero_le _, by omega, rfl, h0, hBs, hc⟩
  case round =>
    obtain ⟨m, k, hm, hk, rfl, hJs, hBs', hc'⟩ := hrel
    have HC := Lib.hid hc'
    have HB := Lib.hid hBs'
    by_cases hlt : m < len
    · obtain ⟨j, hj⟩ : ∃ j : Nat, len - 1 - m = j := ⟨_, rfl⟩
      obtain ⟨b, off, hA, hb, hcx⟩ := hc' j (by omega)
      obtain rfl : k = (j : Int) := by omega
      have HK := Lib.hid hk
      have hji : (j : Int) < (len : Int) := by omega
      have hj0 : (0 : Int) ≤ (j : Int) := by omega
      have hjw : IntKind.i64.wrap ((j : Int) - 1) = (j : Int) - 1 := IntWalk.i64_in _ ⟨by omega, by omega⟩
      obtain ⟨fn, tmps, assign, body, hy, hR⟩ := hY _ (f j) wr hJs (by rw [Fel.upto_length]; exact hlt)
      have hfj := hf j (by omega)
      unfold Fel.encs at hy
      rw [hfj] at hy
      have hup := Lib.hid (show Fel.upto f len (m + 1) = Fel.upto f len m ++ [f j] from by rw [Fel.upto_succ, hj])
      subst hA
      have HLT := Lib.hid hlt
      clear hm hlt hj hc hk hc'
      gi_wp2
      refine hR.mono ?_
      rintro e W3 (⟨rfl, hJ3, hk3⟩ | ⟨rfl, hJx3⟩)
      · gi_wp2
        go_roundw
        case rel => exact ⟨m + 1, _, by have := HLT.out; omega, by have := HK.out; omega, rfl, by rw [hup.out]; exact hJ3, hK1 _ _ _ hk3 HB.out, fun i hi => (by obtain ⟨b2, o2, w1, w2, w3⟩ := HC.out i hi; exact ⟨b2, o2, w1, w2, hK2 _ _ _ _ _ hk3 w2 w3⟩)⟩
        case measure => (simp [intOf]; try omega)
      · gi_wp2
        refine bodyPost_ret (results_none rfl _ _ _) rfl ?_
        exact ⟨⟨_, rfl⟩, .inr ⟨_, ⟨m + 1, by have := HLT.out; omega, hup.out.symm⟩, hJx3⟩⟩
    · have hk0 : ¬ (0 ≤ k) := by omega
      have hml : m = len := by omega
      rw [hml] at hJs
      clear hk hml hlt hm
      gi_wp2
      go_end0
      exact ⟨⟨_, rfl⟩, .inl hJs⟩
set_option maxHeartbeats 1000000 in
theorem back_in (F : Fence) (n : Nat) (h5 : F.fn 182) (hro : F.round = none) (a : Option Addr) (len cap : Nat) (w : World) :
    CallsIn F n Tryz.prog 182 #[.slice a len cap] w fun e w' => e = .returned (.func (.func 283) #[] #[.pointer (some ⟨w.heap.size, 0, none⟩)]) ∧ w' = w.alloc (.cells #[.slice a len cap] 138) := by
  refine callsIn_of_wp Tryz.func182 rfl h5 ?_ hro
  simp only [Tryz.ntmps182, List.size_toArray, List.length_cons, List.length_nil, Nat.reduceAdd, Nat.reduceSub, Array.replicate_succ, Array.replicate_zero, List.push_toArray, List.append_toArray, List.nil_append, List.cons_append]
  gi_wp2
  go_ret
  exact ⟨rfl, rfl⟩
theorem back_stops (F : Fence) (n : Nat) (h7 : F.fn 283) (hro : F.round = none) (hn : 1 ≤ n) (Bs n₀ : Nat) (A : Option Addr) (len cap : Nat) (w0 : World) (f : Nat → Fel w0) (hlen : len ≤ 1048577) (hf : ∀ j, j < len → (f j).i = j) (w : World) (hBs : Bs < w.heap.size) (hn₀ : n₀ ≤ w.heap.size)
    (hc : w.cell? ⟨Bs, 0, none⟩ = some (.slice A len cap)) (hI : ∀ j, j < len → ∃ b off, A = some ⟨b, off, none⟩ ∧ b < n₀ ∧ w.cell? ⟨b, off + j, none⟩ = some (.slice (f j).A (f j).xs.length (f j).c))
    (Kp : World → World → Prop) (hK1 : ∀ X Y v, Kp X Y → X.cell? ⟨Bs, 0, none⟩ = some v → Y.cell? ⟨Bs, 0, none⟩ = some v) (hK2 : ∀ X Y b i v, Kp X Y → b < n₀ → X.cell? ⟨b, i, none⟩ = some v → Y.cell? ⟨b, i, none⟩ = some v) :
    SeqStopsK F n Tryz.prog 283 #[.pointer (some ⟨Bs, 0, none⟩)] (fun x : Fel w0 => x.encs) Kp (fun ys => ys = Fel.upto f len len) (fun pre => ∃ k, k ≤ len ∧ pre = Fel.upto f len k) len w := fun l J Jx W hW _ _ hY h0 => by
  have hc' := (hW.cell (p := ⟨Bs, 0, none⟩) hBs).trans hc
  exact back1_in F n h7 hro hn l Bs n₀ A len cap w0 f hlen hf Kp hK1 hK2 J Jx hY W hc' (fun j hj => by
    obtain ⟨b, off, h1, h2, h3⟩ := hI j hj
    exact ⟨b, off, h1, h2, ((hW.mono hn₀).cell (p := ⟨b, off + j, none⟩) h2).trans h3⟩) h0
/-- the frames of what has come -/
def Fel.all {w : World} (pre : List (Fel w)) : List DFrame := (pre.map Fel.xs).flatten
theorem Fel.all_snoc {w : World} (pre : List (Fel w)) (x : Fel w) : Fel.all (pre ++ [x]) = Fel.all pre ++ x.xs := by simp [Fel.all]
section
variable {α : Type} {T : Ty α} {e : TypeId} {F : Fence} {n' : Nat} {P : Program} {t : TypeId} {bytes : Nat} {ops : Array Oper} {rest : List Oper} {o : Oper} {a : Act} {Q : Exit → Act → World → Prop}
theorem wpListIn_append_hasl (hgd : o.guard = none) (s x : Operand) (hE : Elem P t e T bytes) (hf : Flat T) {W : World} {S : List Nat} {A : Option Addr} {n c : Nat} {xs : List α} (h : Has (T.sl e) W [.slice A n c] xs S)
    {B : Nat} {e' : TypeId} {A2 : Option Addr} {m c2 : Nat} {ys : List α} (hy : (T.sl e').R W B [.slice A2 m c2] ys)
    (ho : o.op = .call { callee := .builtin .append, args := #[s, x], argTypes := #[t, t] }) (hs : a.eval s = .slice A n c) (hx : a.eval x = .slice A2 m c2)
    {L : Nat} (hL : L = n + m) (hb : L * bytes ≤ 140737488355328) (h63 : L ≤ 9223372036854775807)
    (hK : ∀ A' c'' W' S', OnlyS S W W' → Has (T.sl e) W' [.slice A' L c''] (xs ++ ys) S' → (∀ b ∈ S', b ∈ S ∨ W.heap.size ≤ b) → wpListIn F n' P ops Q rest (a.put o.dst (.slice A' L c'')) W') : wpListIn F n' P ops Q (o :: rest) a W := by
  refine wpListIn_plain hgd fun K hKK => ?_
  obtain ⟨A', c'', W', S', hrun, hon, hF, hS'⟩ := run_append_hasl (P := P) (ty := o.type) hE hf h hy hL hb h63
  unfold Oper.wpIn
  refine ⟨?_, ?_⟩
  · simp [Oper.about, ho, resolve, Target.leads, Sem.run_pure]
  · rw [Oper.semAt_plain F _ _ (by rw [ho]; intro c hc'; cases hc')]
    simp [execOp, ho, resolve, invoke, builtin, hs, hx, hrun, Result.andThen]
    exact hKK _ _ (hK A' c'' W' S' hon hF hS')
end
theorem frames_cells {W : World} {A : Option Addr} {n c : Nat} {xs : List DFrame} {S : List Nat} {e : TypeId} (h : Has (tFrame.sl e) W [.slice A n c] xs S) : ∀ b ∈ S, ∃ o, W.heap[b]? = some o ∧ o.isCells = true := by
  obtain ⟨⟨A', c', ecs, S', h1, h2, h3, rfl⟩, _⟩ := h
  have hn : ∀ (xs : List DFrame) (cs : List Value) (S : List Nat), Rows tFrame W cs xs S → S = [] := by
    intro xs
    induction xs with
    | nil => intro cs S h; exact h.2
    | cons x xs ih =>
      rintro cs S ⟨c1, c2, S1, S2, rfl, rfl, hO, hr⟩
      rw [ih _ _ hr, (tFrame_O hO).2.1]
      rfl
  rw [hn _ _ _ h3]
  intro b hb
  cases A' with
  | none => simp [blockOf] at hb
  | some ad =>
    simp only [blockOf, List.append_nil, List.mem_singleton] at hb
    subst hb
    rcases h2.2 with ⟨hv, _⟩ | ⟨g, cap, cur, hv, _, hg, _⟩
    · cases hv
    · injection hv with hA _ _
      injection hA with hA
      subst hA
      exact ⟨_, hg, rfl⟩
/-- the list that is being made, in its box -/
def OutBox (w : World) (g : Nat) (xs : List DFrame) (W : World) : Prop := ∃ A n c S, n = xs.length ∧ W.heap[g]? = some (.cells #[.slice A n c] 54 (0, 0)) ∧ Has (tFrame.sl 59) W [.slice A n c] xs S ∧ (∀ b ∈ S, b ≠ g ∧ b ≠ g + 1 ∧ w.heap.size ≤ b) ∧ g + 1 < W.heap.size
theorem OutBox.kept {w : World} {g : Nat} {xs : List DFrame} {W W' : World} {row : Option Nat} (h : OutBox w g xs W) (hg : W.grownBy W' row) (hr : ∀ r, row = some r → ∃ o : Obj, W.heap[r]? = some o ∧ o.isCells = false) : OutBox w g xs W' := by
  obtain ⟨A, n, c, S, h0, h1, h2, h3, h4⟩ := h
  have hb : ∀ b : Nat, (∃ o : Obj, W.heap[b]? = some o ∧ o.isCells = true) → W'.heap[b]? = W.heap[b]? := by
    rintro b ⟨o, ho, hc⟩
    refine hg.block b (Array.getElem?_eq_some_iff.1 ho).1 (fun e => ?_)
    obtain ⟨o', ho', hc'⟩ := hr _ e.symm
    rw [ho] at ho'
    injection ho' with ho'
    rw [ho', hc'] at hc
    cases hc
  exact ⟨A, n, c, S, h0, (hb g ⟨_, h1, rfl⟩).trans h1, ⟨(tFrame.sl _).keepO h2.1 (fun k hk => hb k (frames_cells h2 k hk)), h2.2⟩, h3, Nat.lt_of_lt_of_le h4 hg.size⟩
set_option maxRecDepth 100000 in
set_option maxHeartbeats 2000000 in
theorem outward_in (F : Fence) (n : Nat) (h3 : F.fn 90) (h5 : F.fn 182) (h7 : F.fn 283) (hro : F.round = none) (hn : 3 ≤ n) {l : List (List DFrame)} {w : World} {A : Option Addr} {c : Nat} (hx : ((tFrame.sl 59).sl 54).R w w.heap.size [.slice A l.length c] l) (hl : l.length ≤ 1000) (hs : ∀ x ∈ l, x.length ≤ 1048577) :
    CallsIn F n Tryz.prog 90 #[.slice A l.length c] w fun r w' => ∃ A' c' S, r = .returned (.slice A' (outw l).length c') ∧ Has (tFrame.sl 59) w' [.slice A' (outw l).length c'] (outw l) S ∧ (∀ b ∈ S, w.heap.size ≤ b) ∧ Gro w w' := by
  have h1 : 1 ≤ n := by omega
  -- the elements as yield is handed them
  obtain ⟨f, hf⟩ : ∃ f : Nat → Fel w, ∀ j, j < l.length → (f j).i = j ∧ l[j]? = some (f j).xs ∧ ∃ b off, A = some ⟨b, off, none⟩ ∧ b < w.heap.size ∧ w.cell? ⟨b, off + j, none⟩ = some (.slice (f j).A (f j).xs.length (f j).c) := by
    have key : ∀ j, ∃ x : Fel w, j < l.length → x.i = j ∧ l[j]? = some x.xs ∧ ∃ b off, A = some ⟨b, off, none⟩ ∧ b < w.heap.size ∧ w.cell? ⟨b, off + j, none⟩ = some (.slice x.A x.xs.length x.c) := fun j => by
      by_cases hj : j < l.length
      · obtain ⟨g, off, x, ec, hA, hg, hxj, hR, hcell⟩ := elem_at hx hj
        obtain ⟨A2, c2, hv, b1, b2, b3, b4⟩ := hR
        subst hv
        refine ⟨⟨j, A2, c2, x, ⟨A2, c2, rfl, b1, b2, b3, b4⟩, hs x (List.mem_of_getElem? hxj)⟩, fun _ => ⟨rfl, hxj, g, off, hA, hg, ?_⟩⟩
        have := hcell 0 _ rfl
        simpa [Ty.sl] using this
      · exact ⟨Fel.none w, fun h => absurd h hj⟩
    exact ⟨fun j => (key j).choose, fun j => (key j).choose_spec⟩
  have hall : Fel.all (Fel.upto f l.length l.length) = outw l := by
    unfold Fel.all outw Fel.upto
    rw [List.map_map]
    congr 1
    apply List.ext_getElem
    · simp
    · intro i h1 h2
      simp only [List.length_map, List.length_range] at h1
      have := (hf (l.length - 1 - i) (by omega)).2.1
      simp only [List.getElem_map, List.getElem_range, Function.comp, List.getElem_reverse]
      rw [List.getElem?_eq_getElem (by omega)] at this
      injection this with this
      exact this.symm
  have HALL := Lib.hid hall
  clear hall
  refine callsIn_of_wp_marks Tryz.func90 rfl h3 ?_ hro
  simp only [Tryz.ntmps90, List.size_toArray, List.length_cons, List.length_nil, Nat.reduceAdd, Nat.reduceSub, Array.replicate_succ, Array.replicate_zero, List.push_toArray, List.append_toArray, List.nil_append, List.cons_append]
  gi_wp2_with (gi_at_call 182; refine (back_in F (n - 1) h5 hro _ _ _ _).mono ?_; rintro e w' ⟨rfl, rfl⟩)
  have eo := heap_alloc_new (w.alloc (.cells #[] 59)) (.cells #[.slice (some ⟨w.heap.size, 0, none⟩) 0 0] 54)
  have en := heap_alloc_new w (.cells #[] 59)
  have eb := heap_alloc_new ((w.alloc (.cells #[] 59)).alloc (.cells #[.slice (some ⟨w.heap.size, 0, none⟩) 0 0] 54)) (.cells #[.slice A l.length c] 138)
  simp only [World.size_alloc] at eo eb ⊢
  have hgY : Gro w (((w.alloc (.cells #[] 59)).alloc (.cells #[.slice (some ⟨w.heap.size, 0, none⟩) 0 0] 54)).alloc (.cells #[.slice A l.length c] 138)) := gG
  have en2 := grow_blk (grow_blk en ((Gro.refl _).alloc (.cells #[.slice (some ⟨w.heap.size, 0, none⟩) 0 0] 54))) ((Gro.refl _).alloc (.cells #[.slice A l.length c] 138))
  have eo2 := grow_blk eo ((Gro.refl _).alloc (.cells #[.slice A l.length c] 138))
  obtain ⟨g, hg⟩ : ∃ g, w.heap.size = g := ⟨_, rfl⟩
  rw [hg] at hgY en2 eo2 eb ⊢
  generalize ((w.alloc (.cells #[] 59)).alloc (.cells #[.slice (some ⟨g, 0, none⟩) 0 0] 54)).alloc (.cells #[.slice A l.length c] 138) = Y at hgY en2 eo2 eb ⊢
  clear en eo
  have hgY1 : g + 1 + 1 < Y.heap.size := (Array.getElem?_eq_some_iff.1 eb).1
  have hbB := (box1 eb).1
  have h0 : OutBox w (g + 1) (Fel.all ([] : List (Fel w))) Y := ⟨_, 0, 0, [g], rfl, eo2, Has.emp tFrame en2, fun b hb => (by simp at hb; omega), hgY1⟩
  refine wpIn_rangeFunc_ownG hro h1 (gf := 283) (lb := #[.pointer (some ⟨g + 1 + 1, 0, none⟩)]) rfl h7 (enters_of Tryz.func283 (by kernel_rfl) rfl)
    (back_stops F (n - 1) h7 hro (by omega) (g + 1 + 1) g A l.length c w f (by omega) (fun j hj => (hf j hj).1) Y hgY1 (by omega) hbB (fun j hj => by
      obtain ⟨_, _, b, off, hA, hb, hcell⟩ := hf j hj
      exact ⟨b, off, hA, by omega, grow_cell hgY hcell⟩)
      (fun X Y => Below g X Y ∧ Y.heap[g + 1 + 1]? = X.heap[g + 1 + 1]?) (fun X Y v h hx => (World.cell?_of_block h.2).trans hx) (fun X Y b i v h hb hx => (h.1.cell (p := ⟨b, i, none⟩) hb).trans hx))
    (fun h k => ⟨h.1.trans k.1, k.2.trans h.2⟩) (fun W l o o' hl hW hc hw => ⟨belowK_b (w := Y) (by omega) W l o o' hl hW hc hw, World.putObj_heap_other (by omega)⟩) (Below.refl _ _) (fun _ => rfl)
    (fun pre W => OutBox w (g + 1) (Fel.all pre) W ∧ Below g w W)
    (fun _ _ _ => False)
    (OwnFrom.and (Own.from (fun s A B row hs hg hr => hs.kept hg hr) _) (ownFrom_below (by omega) (by omega)))
    (fun _ _ _ _ _ hs _ _ => hs)
    ⟨h0, by rw [← hg]; exact hgY.below⟩
    (fun x => { tmps := #[.slice A l.length c, undef, .slice none 0 0, .pointer (some ⟨g + 1, 0, none⟩), undef, .slice x.A x.xs.length x.c, .slice (some ⟨g, 0, none⟩) 0 0, .slice A l.length c, .func (.func 283) #[] #[.pointer (some ⟨g + 1 + 1, 0, none⟩)], .int .i64 (x.i : Int), .slice x.A x.xs.length x.c, undef, undef, undef, undef], defers := [] }) ?assign ?body ?done ?stop
  case assign =>
    intro l' x W K hK
    unfold Fel.encs
    gi_wp2
    exact hK
  case body =>
    rintro l' pre x W ⟨⟨A1, n1, c1, S1, hn1, e1, hH1, hS1, hgW⟩, hB⟩ hlen
    obtain ⟨x1, x2⟩ := box1 e1
    have hpl : n1 ≤ 1048577 * pre.length := by
      rw [hn1]
      clear hn1 hH1 e1 x1 hlen
      unfold Fel.all
      induction pre with
      | nil => simp
      | cons y ys ih =>
        have hy := y.hl
        simp only [List.map_cons, List.flatten_cons, List.length_append, List.length_cons]
        omega
    have hxl := x.hl
    have hyR : (tFrame.sl 59).R W w.heap.size [.slice x.A x.xs.length x.c] x.xs := (tFrame.sl _).keepR x.h (fun k hk => hB.block k (by omega)) (Nat.le_refl _)
    have HN := Lib.hid hn1
    clear hn1
    gi_wp2_with (refine wpListIn_append_hasl (L := n1 + x.xs.length) rfl (.tmp 11) (.tmp 12) elFrame flatFrame hH1 hyR rfl rfl rfl rfl (by omega) (by omega) ?_; intro A8 c8 W8 S8 hon hH8 hS8; have e8 := frz_thru e1 (Gro.refl _) hon (fun hm => (hS1 _ hm).1 rfl); obtain ⟨z1, z2⟩ := box1 e8)
    have hs1 := set1 e8 (.slice A8 (n1 + x.xs.length) c8)
    have hlt8 := hon.size
    have hnot : ∀ b ∈ S8, b ≠ g + 1 ∧ b ≠ g + 1 + 1 ∧ w.heap.size ≤ b := fun b hb => by
      rcases hS8 b hb with h | h
      · exact hS1 b h
      · omega
    have hon2 : OnlyS ((g + 1) :: S1) W (W8.setCell ⟨g + 1, 0, none⟩ (.slice A8 (n1 + x.xs.length) c8)) := (hon.mono (fun k hk => .tail _ hk)).trans (hs1.2.mono (fun k hk => by rw [List.mem_singleton.1 hk]; exact .head _))
    have hbel : Below g W (W8.setCell ⟨g + 1, 0, none⟩ (.slice A8 (n1 + x.xs.length) c8)) := ⟨hon2.os, hon2.tape, hon2.output, hon2.size, fun k hk => hon2.block k (by omega) (fun hm => by
      rcases List.mem_cons.1 hm with h | h
      · omega
      · have := (hS1 k h).2.2; omega)⟩
    refine ⟨⟨hon2.size, fun k o hk ho hc => (hon2.block k (Array.getElem?_eq_some_iff.1 ho).1 (fun hm => ?_)).trans ho⟩, ⟨hbel, hon2.block _ (by omega) (fun hm => ?_)⟩, ⟨A8, n1 + x.xs.length, c8, S8, ?_, hs1.1, ?_, hnot, ?_⟩, hB.trans hbel⟩
    · rcases List.mem_cons.1 hm with h | h
      · omega
      · obtain ⟨o', ho', hc'⟩ := frames_cells hH1 k h
        rw [ho] at ho'
        injection ho' with ho'
        rw [ho', hc'] at hc
        cases hc
    · rcases List.mem_cons.1 hm with h | h
      · omega
      · exact (hS1 _ h).2.1 rfl
    · rw [Fel.all_snoc, List.length_append, HN.out]
    · rw [Fel.all_snoc]
      exact hH8.keep hs1.2 (fun b hb hm => by have := (hnot b hb).1; simp at hm; omega)
    · have := hs1.2.size; omega
  case done =>
    rintro D ys W hD rfl ⟨⟨A1, n1, c1, S1, hn1, e1, hH1, hS1, hgW⟩, hB⟩ hK
    obtain ⟨x1, x2⟩ := box1 e1
    rw [HALL.out] at hn1 hH1
    gi_wp2
    refine ⟨by simp, .inl ⟨_, _, rfl, run_takeDeferred hK, ?_⟩⟩
    have hput := belowK_b (n₀ := g) (w := Y) (by omega) W D _ (.deferred none) hD hK rfl rfl
    refine ⟨_, results_tmp rfl _ _ _, A1, c1, S1, by rw [← hn1]; rfl, ⟨?_, hH1.2⟩, fun b hb => (hS1 b hb).2.2, ?_⟩
    · rw [← hn1]
      refine (tFrame.sl _).keepO hH1.1 (fun k hk => World.putObj_heap_other (fun e => ?_))
      obtain ⟨o, ho, hc⟩ := frames_cells hH1 k hk
      rw [e, hK] at ho
      injection ho with ho
      rw [← ho] at hc
      cases hc
    · have h := hB.trans hput
      rw [← hg] at h
      exact Gro.of_below h
  case stop =>
    rintro D c pre W _ _ h _
    exact h.elim
theorem outward_i {l : List (List DFrame)} {w : World} {A : Option Addr} {c : Nat} (hx : ((tFrame.sl 59).sl 54).R w w.heap.size [.slice A l.length c] l) (hl : l.length ≤ 1000) (hs : ∀ x ∈ l, x.length ≤ 1048577) :
    Calls Tryz.prog 90 #[.slice A l.length c] w fun r w' => ∃ A' c' S, r = .returned (.slice A' (outw l).length c') ∧ Has (tFrame.sl 59) w' [.slice A' (outw l).length c'] (outw l) S ∧ (∀ b ∈ S, w.heap.size ≤ b) ∧ Gro w w' :=
  callsIn_wide.1 (outward_in Fence.wide 5 trivial trivial trivial rfl (by omega) hx hl hs)
end Go.Proofs.YtgodpjnbhmahaaaGreat
namespace Go.Proofs.YtgodpjnbhmahaaaGreat
open Go.RowKit
def RetRu (a : DAgent) (w : World) (r : Ending) (w' : World) : Prop := ∃ (g c : Nat) (B0 B1 : Option Addr) (k0 k1 : Nat), r = .returned (.slice (some ⟨g, 0, none⟩) 2 c) ∧ RulesR w' g 0 (rulesA a 0) (rulesA a 1) B0 B1 k0 k1 ∧ Gro w w'
set_option maxRecDepth 100000 in
set_option maxHeartbeats 4000000 in
theorem rulesOf2_i {a : DAgent} {w : World} {A0 A1 A2 A3 : Option Addr} {c0 c1 c2 c3 : Nat} (hA : AgentR a w A0 A1 A2 A3 c0 c1 c2 c3) :
    Calls Tryz.prog 88 #[.agg #[.slice A0 a.Space.Images.length c0, .slice A1 a.Space.Bases.length c1, .slice A2 a.Space.Entries.length c2, .slice A3 a.Debugs.length c3]] w (RetRu a w) := by
  have htwo := hA.two
  obtain ⟨gd, od, d, B0, k0, B1, k1, B2, k2, B3, k3, hAd, hgd, hdk, d0, d1, d2, d3, d4, _, hr0, hr1, hr2, hr3⟩ := atDebug hA.db (k := 0) (by omega)
  obtain ⟨gd', od', d', B0', k0', B1', k1', B2', k2', B3', k3', hAd', hgd', hdk', d0', d1', d2', d3', d4', _, hr0', hr1', hr2', hr3'⟩ := atDebug hA.db (k := 1) (by omega)
  rw [hAd] at hAd'
  injection hAd' with hAd'
  injection hAd' with e1 e2
  subst e1 e2 hAd
  have hR0 := Lib.hid (show rulesA a 0 = d.Rules from by unfold rulesA; rw [hdk]; rfl)
  have hR1 := Lib.hid (show rulesA a 1 = d'.Rules from by unfold rulesA; rw [hdk']; rfl)
  clear hdk hdk'
  simp only [Nat.zero_mul, Nat.one_mul, Nat.add_zero] at d2 d2'
  have hlt0 : (0 : Int) < (a.Debugs.length : Int) := by omega
  have hlt1 : (1 : Int) < (a.Debugs.length : Int) := by omega
  clear htwo
  go_enter Tryz.func88, Tryz.ntmps88
  go_upto_region 1 with (fail)
  have hgr : Gro w (w.alloc (.cells #[.slice A0 a.Space.Images.length c0, .slice A1 a.Space.Bases.length c1, .slice A2 a.Space.Entries.length c2, .slice (some ⟨gd, od, none⟩) a.Debugs.length c3] 31)) := gG
  have eb := heap_alloc_new w (.cells #[.slice A0 a.Space.Images.length c0, .slice A1 a.Space.Bases.length c1, .slice A2 a.Space.Entries.length c2, .slice (some ⟨gd, od, none⟩) a.Debugs.length c3] 31)
  obtain ⟨g0, hg0⟩ : ∃ g0, w.heap.size = g0 := ⟨_, rfl⟩
  rw [hg0] at eb ⊢
  have hwg := Lib.hid hg0
  clear hg0
  generalize w.alloc (.cells #[.slice A0 a.Space.Images.length c0, .slice A1 a.Space.Bases.length c1, .slice A2 a.Space.Entries.length c2, .slice (some ⟨gd, od, none⟩) a.Debugs.length c3] 31) = Y at hgr eb ⊢
  obtain ⟨y0, y1, y2, y3, _, hgY⟩ := row4 eb
  have x2 := grow_cell hgr d2
  have x2' := grow_cell hgr d2'
  clear eb d0 d1 d2 d3 d4 d0' d1' d2' d3' d4'
  go_region
  have hg2 : Gro w (Y.alloc (.cells #[.slice B1 d.Rules.length k1, .slice B1' d'.Rules.length k1'] 93)).drew := hgr.trans gG
  have ez := heap_alloc_new Y (.cells #[.slice B1 d.Rules.length k1, .slice B1' d'.Rules.length k1'] 93)
  obtain ⟨z0, z1, _⟩ := box2 ez
  go_wp2_with (fail)
  refine bodyPost_ret (v := .slice (some ⟨Y.heap.size, 0, none⟩) 2 2) (by simp [results, Tryz.results88, go_sem]) rfl ⟨Y.heap.size, 2, B1, B1', k1, k1', rfl, ?_, hg2⟩
  rw [hR0.out, hR1.out]
  exact ⟨z0, z1, Ty.up _ hr1 hg2, Ty.up _ hr1' hg2⟩
set_option maxRecDepth 100000 in
set_option maxHeartbeats 4000000 in
theorem rulesOf2_s {a : DAgent} {w : World} {A0 A1 A2 A3 : Option Addr} {c0 c1 c2 c3 : Nat} (hA : AgentR a w A0 A1 A2 A3 c0 c1 c2 c3) :
    Calls Tryz.prog 93 #[.agg #[.slice A0 a.Space.Images.length c0, .slice A1 a.Space.Bases.length c1, .slice A2 a.Space.Entries.length c2, .slice A3 a.Debugs.length c3]] w (RetRu a w) := by
  have htwo := hA.two
  obtain ⟨gd, od, d, B0, k0, B1, k1, B2, k2, B3, k3, hAd, hgd, hdk, d0, d1, d2, d3, d4, _, hr0, hr1, hr2, hr3⟩ := atDebug hA.db (k := 0) (by omega)
  obtain ⟨gd', od', d', B0', k0', B1', k1', B2', k2', B3', k3', hAd', hgd', hdk', d0', d1', d2', d3', d4', _, hr0', hr1', hr2', hr3'⟩ := atDebug hA.db (k := 1) (by omega)
  rw [hAd] at hAd'
  injection hAd' with hAd'
  injection hAd' with e1 e2
  subst e1 e2 hAd
  have hR0 := Lib.hid (show rulesA a 0 = d.Rules from by unfold rulesA; rw [hdk]; rfl)
  have hR1 := Lib.hid (show rulesA a 1 = d'.Rules from by unfold rulesA; rw [hdk']; rfl)
  clear hdk hdk'
  simp only [Nat.zero_mul, Nat.one_mul, Nat.add_zero] at d2 d2'
  have hlt0 : (0 : Int) < (a.Debugs.length : Int) := by omega
  have hlt1 : (1 : Int) < (a.Debugs.length : Int) := by omega
  clear htwo
  go_enter Tryz.func93, Tryz.ntmps93
  go_upto_region 1 with (fail)
  have hgr : Gro w (w.alloc (.cells #[.slice A0 a.Space.Images.length c0, .slice A1 a.Space.Bases.length c1, .slice A2 a.Space.Entries.length c2, .slice (some ⟨gd, od, none⟩) a.Debugs.length c3] 31)) := gG
  have eb := heap_alloc_new w (.cells #[.slice A0 a.Space.Images.length c0, .slice A1 a.Space.Bases.length c1, .slice A2 a.Space.Entries.length c2, .slice (some ⟨gd, od, none⟩) a.Debugs.length c3] 31)
  obtain ⟨g0, hg0⟩ : ∃ g0, w.heap.size = g0 := ⟨_, rfl⟩
  rw [hg0] at eb ⊢
  have hwg := Lib.hid hg0
  clear hg0
  generalize w.alloc (.cells #[.slice A0 a.Space.Images.length c0, .slice A1 a.Space.Bases.length c1, .slice A2 a.Space.Entries.length c2, .slice (some ⟨gd, od, none⟩) a.Debugs.length c3] 31) = Y at hgr eb ⊢
  obtain ⟨y0, y1, y2, y3, _, hgY⟩ := row4 eb
  have x2 := grow_cell hgr d2
  have x2' := grow_cell hgr d2'
  clear eb d0 d1 d2 d3 d4 d0' d1' d2' d3' d4'
  go_region
  have hg2 : Gro w (Y.alloc (.cells #[.slice B1 d.Rules.length k1, .slice B1' d'.Rules.length k1'] 93)).drew := hgr.trans gG
  have ez := heap_alloc_new Y (.cells #[.slice B1 d.Rules.length k1, .slice B1' d'.Rules.length k1'] 93)
  obtain ⟨z0, z1, _⟩ := box2 ez
  go_wp2_with (fail)
  refine bodyPost_ret (v := .slice (some ⟨Y.heap.size, 0, none⟩) 2 2) (by simp [results, Tryz.results93, go_sem]) rfl ⟨Y.heap.size, 2, B1, B1', k1, k1', rfl, ?_, hg2⟩
  rw [hR0.out, hR1.out]
  exact ⟨z0, z1, Ty.up _ hr1 hg2, Ty.up _ hr1' hg2⟩
end Go.Proofs.YtgodpjnbhmahaaaGreat
namespace Go.Proofs.YtgodpjnbhmahaaaGreat
open Go.RowKit
set_option maxRecDepth 100000 in
set_option maxHeartbeats 6000000 in
theorem unwStep_i {s : DSpace} {R0 R1 : List DRule} {v : DView} {inner : Bool} {w : World} {A0 A1 A2 A B0 B1 : Option Addr} {c0 c1 c2 c d0 d1 gr ov cr : Nat} (hS : SpaceR s w A0 A1 A2 c0 c1 c2) (hR : RulesR w gr ov R0 R1 B0 B1 d0 d1) (hv : viewIn v) (h3 : (intT.sl 3).R w w.heap.size [.slice A v.Words.length c] v.Words) :
    Calls Tryz.prog 180 #[.agg #[.slice A0 s.Images.length c0, .slice A1 s.Bases.length c1, .slice A2 s.Entries.length c2], .slice (some ⟨gr, ov, none⟩) 2 cr, .agg #[.int .i64 v.Pc, .int .i64 v.Sp, .int .i64 v.Fp, .slice A v.Words.length c], .bool inner] w (RetStep (unwStep s R0 R1 v inner) w) := by
  have hs := hv.sp
  have HV := Lib.hid hv.1
  have HQ := Lib.hid hS.ok
  have hl : v.Words.length ≤ 1099511627776 := by omega
  have hgr : Gro w (((w.alloc (.cells #[.slice A0 s.Images.length c0, .slice A1 s.Bases.length c1, .slice A2 s.Entries.length c2] 28)).alloc (.cells #[.int .i64 v.Pc, .int .i64 v.Sp, .int .i64 v.Fp, .slice A v.Words.length c] 49)).alloc (.cells #[.int .i64 0, .int .i64 0, .int .i64 0, .slice none 0 0] 49)) := gG
  have e0 : (((w.alloc (.cells #[.slice A0 s.Images.length c0, .slice A1 s.Bases.length c1, .slice A2 s.Entries.length c2] 28)).alloc (.cells #[.int .i64 v.Pc, .int .i64 v.Sp, .int .i64 v.Fp, .slice A v.Words.length c] 49)).alloc (.cells #[.int .i64 0, .int .i64 0, .int .i64 0, .slice none 0 0] 49)).heap[w.heap.size]? = some (.cells #[.slice A0 s.Images.length c0, .slice A1 s.Bases.length c1, .slice A2 s.Entries.length c2] 28 (0, 0)) := grow_blk (heap_alloc_new w _) gF
  have e1 : (((w.alloc (.cells #[.slice A0 s.Images.length c0, .slice A1 s.Bases.length c1, .slice A2 s.Entries.length c2] 28)).alloc (.cells #[.int .i64 v.Pc, .int .i64 v.Sp, .int .i64 v.Fp, .slice A v.Words.length c] 49)).alloc (.cells #[.int .i64 0, .int .i64 0, .int .i64 0, .slice none 0 0] 49)).heap[w.heap.size + 1]? = some (.cells #[.int .i64 v.Pc, .int .i64 v.Sp, .int .i64 v.Fp, .slice A v.Words.length c] 49 (0, 0)) := by have h := heap_alloc_new (w.alloc (.cells #[.slice A0 s.Images.length c0, .slice A1 s.Bases.length c1, .slice A2 s.Entries.length c2] 28)) (.cells #[.int .i64 v.Pc, .int .i64 v.Sp, .int .i64 v.Fp, .slice A v.Words.length c] 49); rw [World.size_alloc] at h; exact grow_blk h gF
  have er : (((w.alloc (.cells #[.slice A0 s.Images.length c0, .slice A1 s.Bases.length c1, .slice A2 s.Entries.length c2] 28)).alloc (.cells #[.int .i64 v.Pc, .int .i64 v.Sp, .int .i64 v.Fp, .slice A v.Words.length c] 49)).alloc (.cells #[.int .i64 0, .int .i64 0, .int .i64 0, .slice none 0 0] 49)).heap[w.heap.size + 1 + 1]? = some (.cells #[.int .i64 0, .int .i64 0, .int .i64 0, .slice none 0 0] 49 (0, 0)) := by have h := heap_alloc_new ((w.alloc (.cells #[.slice A0 s.Images.length c0, .slice A1 s.Bases.length c1, .slice A2 s.Entries.length c2] 28)).alloc (.cells #[.int .i64 v.Pc, .int .i64 v.Sp, .int .i64 v.Fp, .slice A v.Words.length c] 49)) (.cells #[.int .i64 0, .int .i64 0, .int .i64 0, .slice none 0 0] 49); rw [World.size_alloc, World.size_alloc] at h; exact h
  have HS := Lib.hid hS
  have HR := Lib.hid hR
  clear hS hR
  go_enter Tryz.func180, Tryz.ntmps180
  go_upto_region 1 with (fail)
  obtain ⟨g, hg0⟩ : ∃ g, w.heap.size = g := ⟨_, rfl⟩
  rw [hg0] at e0 e1 er ⊢
  have hwg : w.heap.size ≤ g := by omega
  generalize (((w.alloc (.cells #[.slice A0 s.Images.length c0, .slice A1 s.Bases.length c1, .slice A2 s.Entries.length c2] 28)).alloc (.cells #[.int .i64 v.Pc, .int .i64 v.Sp, .int .i64 v.Fp, .slice A v.Words.length c] 49)).alloc (.cells #[.int .i64 0, .int .i64 0, .int .i64 0, .slice none 0 0] 49)) = Y at hgr e0 e1 er ⊢
  obtain ⟨y0, y1, y2, _⟩ := row3 e0
  obtain ⟨x0, x1, x2, x3, _⟩ := box4 e1
  have HGY := Lib.hid (show g + 1 + 1 < Y.heap.size from (Array.getElem?_eq_some_iff.1 er).1)
  have hgq0 := Lib.hid hgr
  clear e0 e1 hg0
  obtain ⟨E, hE⟩ : ∃ E, (if inner = true then v.Pc else v.Pc - 1) = E := ⟨_, rfl⟩
  have HE := Lib.hid hE
  have he : I64 E := by
    have h1 := hv.2.1.1
    have h2 := hv.2.1.2
    rw [← hE]
    split
    · exact ⟨by omega, by omega⟩
    · exact ⟨by omega, by omega⟩
  cases inner with
  | true =>
    obtain rfl : v.Pc = E := hE
    rcases loc_two HS.out.ok v.Pc with hloc | ⟨i, off, hi2, hloc, ho1, ho2⟩
    · have HL := Lib.hid hloc
      have HU := Lib.hid (unwStep_no (R0 := R0) (R1 := R1) (v := v) (inner := true) (by rw [HE.out]; exact hloc))
      clear hloc
      go_wp2_with (first | (go_at_call 80; (with_reducible refine (spaceOk_i (s := s) (HS.out.up hgr).i0 (HS.out.up hgr).i1 (HS.out.up hgr).i2 HS.out.sz).mono ?_); rw [HQ.out]; rintro e v1 ⟨rfl, hg⟩; have y0 := grow_cell hg y0; have y1 := grow_cell hg y1; have y2 := grow_cell hg y2; have x0 := grow_cell hg x0; have x1 := grow_cell hg x1; have x2 := grow_cell hg x2; have x3 := grow_cell hg x3; have er := grow_blk er hg; obtain ⟨b0, b1, b2, b3, bf⟩ := box4 er; have hgr := hgr.trans hg) | (go_at_call 111; (with_reducible refine (viewOk_i v _ _ _ hl).mono ?_); rw [HV.out]; rintro e v1 ⟨rfl, hg⟩; have y0 := grow_cell hg y0; have y1 := grow_cell hg y1; have y2 := grow_cell hg y2; have x0 := grow_cell hg x0; have x1 := grow_cell hg x1; have x2 := grow_cell hg x2; have x3 := grow_cell hg x3; have er := grow_blk er hg; obtain ⟨b0, b1, b2, b3, bf⟩ := box4 er; have hgr := hgr.trans hg) | (go_at_call 263; (with_reducible refine (locI (s := s) (e := v.Pc) (HS.out.up hgr) he).mono ?_); rw [HL.out]; rintro e v1 ⟨rfl, hg⟩; have y0 := grow_cell hg y0; have y1 := grow_cell hg y1; have y2 := grow_cell hg y2; have x0 := grow_cell hg x0; have x1 := grow_cell hg x1; have x2 := grow_cell hg x2; have x3 := grow_cell hg x3; have er := grow_blk er hg; obtain ⟨b0, b1, b2, b3, bf⟩ := box4 er; have hgr := hgr.trans hg))
      have h2 := set4 er (.int .i64 0) (.int .i64 0) (.int .i64 0) (.slice none 0 0)
      obtain ⟨t0, t1, t2, t3, _⟩ := box4 h2.1
      exact bodyPost_ret (v := .tuple #[.agg #[.int .i64 0, .int .i64 0, .int .i64 0, .slice none 0 0], .bool false]) (by simp [results, Tryz.results180, go_sem, t0, t1, t2, t3]) rfl (RetStep.no HU.out (h2.2.gro hgr (fun b hb => by simp at hb; omega)))
    · have HL := Lib.hid hloc
      obtain ⟨Bi, di, Ri, kc, hxi, hri⟩ := HR.out.at hi2
      have HXi := Lib.hid hxi
      have HRI := Lib.hid hri
      have ho : I64 off := ⟨by omega, by omega⟩
      have kc := grow_cell hgr kc
      have hin : ¬ ((i : Int) < 0) := by omega
      have hi0 : (0 : Int) ≤ (i : Int) := by omega
      have hi22 : (i : Int) < 2 := by omega
      clear hloc hxi hri
      rcases findRule_res Ri off with hfi | ⟨j, r, hj, hdp, hfi⟩
      · have HF := Lib.hid hfi
        have HU := Lib.hid (unwStep_far (R0 := R0) (R1 := R1) (v := v) (inner := true) (i := i) (off := off) (by rw [HE.out]; exact HL.out) (by rw [HRI.out]; exact hfi))
        clear hfi
        go_wp2_with (first | (go_at_call 80; (with_reducible refine (spaceOk_i (s := s) (HS.out.up hgr).i0 (HS.out.up hgr).i1 (HS.out.up hgr).i2 HS.out.sz).mono ?_); rw [HQ.out]; rintro e v1 ⟨rfl, hg⟩; have y0 := grow_cell hg y0; have y1 := grow_cell hg y1; have y2 := grow_cell hg y2; have x0 := grow_cell hg x0; have x1 := grow_cell hg x1; have x2 := grow_cell hg x2; have x3 := grow_cell hg x3; have er := grow_blk er hg; obtain ⟨b0, b1, b2, b3, bf⟩ := box4 er; (try have kc := grow_cell hg kc); have hgr := hgr.trans hg) | (go_at_call 111; (with_reducible refine (viewOk_i v _ _ _ hl).mono ?_); rw [HV.out]; rintro e v1 ⟨rfl, hg⟩; have y0 := grow_cell hg y0; have y1 := grow_cell hg y1; have y2 := grow_cell hg y2; have x0 := grow_cell hg x0; have x1 := grow_cell hg x1; have x2 := grow_cell hg x2; have x3 := grow_cell hg x3; have er := grow_blk er hg; obtain ⟨b0, b1, b2, b3, bf⟩ := box4 er; (try have kc := grow_cell hg kc); have hgr := hgr.trans hg) | (go_at_call 263; (with_reducible refine (locI (s := s) (e := v.Pc) (HS.out.up hgr) he).mono ?_); rw [HL.out]; rintro e v1 ⟨rfl, hg⟩; have y0 := grow_cell hg y0; have y1 := grow_cell hg y1; have y2 := grow_cell hg y2; have x0 := grow_cell hg x0; have x1 := grow_cell hg x1; have x2 := grow_cell hg x2; have x3 := grow_cell hg x3; have er := grow_blk er hg; obtain ⟨b0, b1, b2, b3, bf⟩ := box4 er; (try have kc := grow_cell hg kc); have hgr := hgr.trans hg) | (go_at_call 279; (with_reducible refine (findRule_i (rs := Ri) (off := off) (Ty.up _ HXi.out hgr) ho).mono ?_); rw [HF.out]; rintro e v1 ⟨rfl, hg⟩; have y0 := grow_cell hg y0; have y1 := grow_cell hg y1; have y2 := grow_cell hg y2; have x0 := grow_cell hg x0; have x1 := grow_cell hg x1; have x2 := grow_cell hg x2; have x3 := grow_cell hg x3; have er := grow_blk er hg; obtain ⟨b0, b1, b2, b3, bf⟩ := box4 er; (try have kc := grow_cell hg kc); have hgr := hgr.trans hg))
        have h2 := set4 er (.int .i64 0) (.int .i64 0) (.int .i64 0) (.slice none 0 0)
        obtain ⟨t0, t1, t2, t3, _⟩ := box4 h2.1
        exact bodyPost_ret (v := .tuple #[.agg #[.int .i64 0, .int .i64 0, .int .i64 0, .slice none 0 0], .bool false]) (by simp [results, Tryz.results180, go_sem, t0, t1, t2, t3]) rfl (RetStep.no HU.out (h2.2.gro hgr (fun b hb => by simp at hb; omega)))
      · have HF := Lib.hid hfi
        have HU0 := Lib.hid (unwStep_by (R0 := R0) (R1 := R1) (v := v) (inner := true) (i := i) (off := off) (j := j) (r := r) (by rw [HE.out]; exact HL.out) (by rw [HRI.out]; exact hfi) (by rw [HRI.out]; exact hj))
        clear hfi
        obtain ⟨gk, ok, r', hAk, hgk, hrk, m0, m1, m2, m3, _, _, hrd⟩ := atRule HXi.out (k := j) (List.getElem?_eq_some_iff.1 hj).1
        obtain rfl : r' = r := by rw [hj] at hrk; injection hrk with hrk; exact hrk.symm
        subst hAk
        have HJ := Lib.hid hj
        have hjl : (j : Int) < (Ri.length : Int) := by have := (List.getElem?_eq_some_iff.1 hj).1; omega
        have hdep := btw_iff.1 hdp
        have hd64 : IntKind.i64.wrap (v.Sp + r'.Depth) = v.Sp + r'.Depth := IntWalk.i64_in _ ⟨by omega, by omega⟩
        have hd65 : IntKind.i64.wrap (v.Sp + r'.Depth + 1) = v.Sp + r'.Depth + 1 := IntWalk.i64_in _ ⟨by omega, by omega⟩
        have hf64 : IntKind.i64.wrap (v.Fp + 1) = v.Fp + 1 := IntWalk.i64_in _ ⟨by have := hv.2.2.1.1; omega, by have := hv.2.2.1.2; omega⟩
        have hf65 : IntKind.i64.wrap (v.Fp + 2) = v.Fp + 2 := IntWalk.i64_in _ ⟨by have := hv.2.2.1.1; omega, by have := hv.2.2.1.2; omega⟩
        have hjn : ¬ ((j : Int) < 0) := by omega
        have hj0 : (0 : Int) ≤ (j : Int) := by omega
        have m0 := grow_cell hgr m0
        have m1 := grow_cell hgr m1
        have m2 := grow_cell hgr m2
        have m3 := grow_cell hgr m3
        clear hj hrk hdp
        go_upto_region 13 with (first | (go_at_call 80; (with_reducible refine (spaceOk_i (s := s) (HS.out.up hgr).i0 (HS.out.up hgr).i1 (HS.out.up hgr).i2 HS.out.sz).mono ?_); rw [HQ.out]; rintro e v1 ⟨rfl, hg⟩; have y0 := grow_cell hg y0; have y1 := grow_cell hg y1; have y2 := grow_cell hg y2; have x0 := grow_cell hg x0; have x1 := grow_cell hg x1; have x2 := grow_cell hg x2; have x3 := grow_cell hg x3; have er := grow_blk er hg; obtain ⟨b0, b1, b2, b3, bf⟩ := box4 er; have kc := grow_cell hg kc; have m0 := grow_cell hg m0; have m1 := grow_cell hg m1; have m2 := grow_cell hg m2; have m3 := grow_cell hg m3; have hgr := hgr.trans hg) | (go_at_call 111; (with_reducible refine (viewOk_i v _ _ _ hl).mono ?_); rw [HV.out]; rintro e v1 ⟨rfl, hg⟩; have y0 := grow_cell hg y0; have y1 := grow_cell hg y1; have y2 := grow_cell hg y2; have x0 := grow_cell hg x0; have x1 := grow_cell hg x1; have x2 := grow_cell hg x2; have x3 := grow_cell hg x3; have er := grow_blk er hg; obtain ⟨b0, b1, b2, b3, bf⟩ := box4 er; have kc := grow_cell hg kc; have m0 := grow_cell hg m0; have m1 := grow_cell hg m1; have m2 := grow_cell hg m2; have m3 := grow_cell hg m3; have hgr := hgr.trans hg) | (go_at_call 263; (with_reducible refine (locI (s := s) (e := v.Pc) (HS.out.up hgr) he).mono ?_); rw [HL.out]; rintro e v1 ⟨rfl, hg⟩; have y0 := grow_cell hg y0; have y1 := grow_cell hg y1; have y2 := grow_cell hg y2; have x0 := grow_cell hg x0; have x1 := grow_cell hg x1; have x2 := grow_cell hg x2; have x3 := grow_cell hg x3; have er := grow_blk er hg; obtain ⟨b0, b1, b2, b3, bf⟩ := box4 er; have kc := grow_cell hg kc; have m0 := grow_cell hg m0; have m1 := grow_cell hg m1; have m2 := grow_cell hg m2; have m3 := grow_cell hg m3; have hgr := hgr.trans hg) | (go_at_call 279; (with_reducible refine (findRule_i (rs := Ri) (off := off) (Ty.up _ HXi.out hgr) ho).mono ?_); rw [HF.out]; rintro e v1 ⟨rfl, hg⟩; have y0 := grow_cell hg y0; have y1 := grow_cell hg y1; have y2 := grow_cell hg y2; have x0 := grow_cell hg x0; have x1 := grow_cell hg x1; have x2 := grow_cell hg x2; have x3 := grow_cell hg x3; have er := grow_blk er hg; obtain ⟨b0, b1, b2, b3, bf⟩ := box4 er; have kc := grow_cell hg kc; have m0 := grow_cell hg m0; have m1 := grow_cell hg m1; have m2 := grow_cell hg m2; have m3 := grow_cell hg m3; have hgr := hgr.trans hg))
        have hg : Gro v1 (v1.alloc (.cells #[.int .i64 r'.Start, .int .i64 r'.End, .bool r'.Frame, .int .i64 r'.Depth] 254)) := gG
        have ez := heap_alloc_new v1 (.cells #[.int .i64 r'.Start, .int .i64 r'.End, .bool r'.Frame, .int .i64 r'.Depth] 254)
        have hzb : g + 1 + 1 < v1.heap.size := (Array.getElem?_eq_some_iff.1 er).1
        obtain ⟨gz, hgz⟩ : ∃ gz, v1.heap.size = gz := ⟨_, rfl⟩
        rw [hgz] at ez ⊢
        have y0 := grow_cell hg y0
        have y1 := grow_cell hg y1
        have y2 := grow_cell hg y2
        have x0 := grow_cell hg x0
        have x1 := grow_cell hg x1
        have x2 := grow_cell hg x2
        have x3 := grow_cell hg x3
        have er := grow_blk er hg
        obtain ⟨b0, b1, b2, b3, bf⟩ := box4 er
        have hgr := hgr.trans hg
        have kc := grow_cell hg kc
        generalize v1.alloc (.cells #[.int .i64 r'.Start, .int .i64 r'.End, .bool r'.Frame, .int .i64 r'.Depth] 254) = Y2 at ez er kc y0 y1 y2 x0 x1 x2 x3 hgr ⊢
        obtain ⟨z0, z1, z2, z3, _⟩ := box4 ez
        clear hg hgz hzb
        cases hfr : r'.Frame with
        | false =>
          rw [hfr] at z2
          have HB := Lib.hid (unwBy_plain (v := v) hfr)
          rcases wordOf_cases v (v.Sp + r'.Depth) with ⟨_, pe⟩ | ⟨pj, px, p1, p2, p3, _, pe⟩
          · have Hp := Lib.hid pe
            have HU : Hid (unwStep s R0 R1 v true = none) := Lib.hid (HU0.out.trans (HB.out.trans (by rw [Hp.out]; rfl)))
            clear pe
            go_wp2_with (first | (go_at_call 280; (with_reducible refine (wordOf_i (v := v) (a := v.Sp + r'.Depth) hv (Ty.up _ h3 hgr)).mono ?_); rw [Hp.out]; rintro e v1 ⟨rfl, hg⟩; have y0 := grow_cell hg y0; have y1 := grow_cell hg y1; have y2 := grow_cell hg y2; have x0 := grow_cell hg x0; have x1 := grow_cell hg x1; have x2 := grow_cell hg x2; have x3 := grow_cell hg x3; have z0 := grow_cell hg z0; have z1 := grow_cell hg z1; have z2 := grow_cell hg z2; have z3 := grow_cell hg z3; have er := grow_blk er hg; obtain ⟨b0, b1, b2, b3, bf⟩ := box4 er; have hgr := hgr.trans hg))
            have h2 := set4 er (.int .i64 0) (.int .i64 0) (.int .i64 0) (.slice none 0 0)
            obtain ⟨t0, t1, t2, t3, _⟩ := box4 h2.1
            exact bodyPost_ret (v := .tuple #[.agg #[.int .i64 0, .int .i64 0, .int .i64 0, .slice none 0 0], .bool false]) (by simp [results, Tryz.results180, go_sem, t0, t1, t2, t3]) rfl (RetStep.no HU.out (h2.2.gro hgr (fun b hb => by simp at hb; omega)))
          · have Hp := Lib.hid pe
            have Hp1 := Lib.hid p1
            clear p1
            obtain ⟨kk, hkk⟩ : ∃ kk, (pj + 1) = kk := ⟨_, rfl⟩
            have HKK := Lib.hid hkk
            clear hkk
            have hsx : Small px := hv.2.2.2 _ (List.mem_of_getElem? p3)
            have hsf : Small v.Fp := hv.2.2.1
            have HU : Hid (unwStep s R0 R1 v true = some (unwTo v px (v.Sp + (kk : Int)) v.Fp)) := Lib.hid (by rw [← show v.Sp + r'.Depth + 1 = v.Sp + (kk : Int) from by have h1 := Hp1.out; have h9 := HKK.out; omega]; exact HU0.out.trans (HB.out.trans (by rw [Hp.out]; rfl)))
            clear p3 pe
            go_wp2_with (first | (go_at_call 280; (with_reducible refine (wordOf_i (v := v) (a := v.Sp + r'.Depth) hv (Ty.up _ h3 hgr)).mono ?_); rw [Hp.out]; rintro e v1 ⟨rfl, hg⟩; have y0 := grow_cell hg y0; have y1 := grow_cell hg y1; have y2 := grow_cell hg y2; have x0 := grow_cell hg x0; have x1 := grow_cell hg x1; have x2 := grow_cell hg x2; have x3 := grow_cell hg x3; have z0 := grow_cell hg z0; have z1 := grow_cell hg z1; have z2 := grow_cell hg z2; have z3 := grow_cell hg z3; have er := grow_blk er hg; obtain ⟨b0, b1, b2, b3, bf⟩ := box4 er; have hgr := hgr.trans hg) | (go_at_call 281; rw [show v.Sp + r'.Depth + 1 = v.Sp + (kk : Int) from by have h1 := Hp1.out; have h9 := HKK.out; omega]; (with_reducible refine (moved_i (v := v) (pc := px) (fp := v.Fp) (k := kk) hv hsx hsf (by have h1 := Hp1.out; have h9 := HKK.out; omega) (Ty.up _ h3 hgr)).mono ?_); rintro e v2 ⟨Bv, cv, rfl, hFv, hg⟩; have hgq := hgr; have hzq : g + 1 + 1 < _ := (Array.getElem?_eq_some_iff.1 er).1; have y0 := grow_cell hg y0; have y1 := grow_cell hg y1; have y2 := grow_cell hg y2; have x0 := grow_cell hg x0; have x1 := grow_cell hg x1; have x2 := grow_cell hg x2; have x3 := grow_cell hg x3; have z0 := grow_cell hg z0; have z1 := grow_cell hg z1; have z2 := grow_cell hg z2; have z3 := grow_cell hg z3; have er := grow_blk er hg; obtain ⟨b0, b1, b2, b3, bf⟩ := box4 er; have hgr := hgr.trans hg))
            generalize unwTo v px (v.Sp + (kk : Int)) v.Fp = X at HU hFv ⊢
            have h2 := set4 er (.int .i64 X.Pc) (.int .i64 X.Sp) (.int .i64 X.Fp) (.slice Bv X.Words.length cv)
            obtain ⟨t0, t1, t2, t3, _⟩ := box4 h2.1
            obtain ⟨SS, hHs, hls⟩ := Fresh.has hFv
            have hYs := hgq.size
            have hgY : g + 1 + 1 < Y.heap.size := HGY.out
            have hYv := hgq0.out.size
            exact bodyPost_ret (v := .tuple #[.agg #[.int .i64 X.Pc, .int .i64 X.Sp, .int .i64 X.Fp, .slice Bv X.Words.length cv], .bool true]) (by simp [results, Tryz.results180, go_sem, t0, t1, t2, t3]) rfl (RetStep.yes HU.out ((hHs.keep h2.2 (fun b hb hm => by have h9 := hls b hb; simp at hm; omega)).fresh (fun b hb => by have h9 := hls b hb; omega)) (h2.2.gro hgr (fun b hb => by simp at hb; omega)))
        | true =>
          rw [hfr] at z2
          rcases wordOf_cases v (v.Fp) with ⟨_, pe⟩ | ⟨pj, px, p1, p2, p3, _, pe⟩
          · have Hp := Lib.hid pe
            have HU : Hid (unwStep s R0 R1 v true = none) := Lib.hid (HU0.out.trans (unwBy_no hfr Hp.out))
            clear pe
            go_wp2_with (first | (go_at_call 280; (with_reducible refine (wordOf_i (v := v) (a := v.Fp) hv (Ty.up _ h3 hgr)).mono ?_); rw [Hp.out]; rintro e v1 ⟨rfl, hg⟩; have y0 := grow_cell hg y0; have y1 := grow_cell hg y1; have y2 := grow_cell hg y2; have x0 := grow_cell hg x0; have x1 := grow_cell hg x1; have x2 := grow_cell hg x2; have x3 := grow_cell hg x3; have z0 := grow_cell hg z0; have z1 := grow_cell hg z1; have z2 := grow_cell hg z2; have z3 := grow_cell hg z3; have er := grow_blk er hg; obtain ⟨b0, b1, b2, b3, bf⟩ := box4 er; have hgr := hgr.trans hg) | (go_at_call 280; (with_reducible refine (wordOf_i (v := v) (a := v.Fp + 1) hv (Ty.up _ h3 hgr)).mono ?_); rintro e v1 ⟨rfl, hg⟩; have y0 := grow_cell hg y0; have y1 := grow_cell hg y1; have y2 := grow_cell hg y2; have x0 := grow_cell hg x0; have x1 := grow_cell hg x1; have x2 := grow_cell hg x2; have x3 := grow_cell hg x3; have z0 := grow_cell hg z0; have z1 := grow_cell hg z1; have z2 := grow_cell hg z2; have z3 := grow_cell hg z3; have er := grow_blk er hg; obtain ⟨b0, b1, b2, b3, bf⟩ := box4 er; have hgr := hgr.trans hg))
            have h2 := set4 er (.int .i64 0) (.int .i64 0) (.int .i64 0) (.slice none 0 0)
            obtain ⟨t0, t1, t2, t3, _⟩ := box4 h2.1
            exact bodyPost_ret (v := .tuple #[.agg #[.int .i64 0, .int .i64 0, .int .i64 0, .slice none 0 0], .bool false]) (by simp [results, Tryz.results180, go_sem, t0, t1, t2, t3]) rfl (RetStep.no HU.out (h2.2.gro hgr (fun b hb => by simp at hb; omega)))
          · have Hp := Lib.hid pe
            have Hp1 := Lib.hid p1
            clear p1
            have HB := Lib.hid (unwBy_frame (v := v) hfr Hp.out)
            rcases wordOf_cases v (v.Fp + 1) with ⟨_, qe⟩ | ⟨qj, qx, q1, q2, q3, _, qe⟩
            · have Hq := Lib.hid qe
              have HU : Hid (unwStep s R0 R1 v true = none) := Lib.hid (HU0.out.trans (HB.out.trans (by rw [Hq.out]; rfl)))
              clear pe qe p3
              go_wp2_with (first | (go_at_call 280; (with_reducible refine (wordOf_i (v := v) (a := v.Fp) hv (Ty.up _ h3 hgr)).mono ?_); rw [Hp.out]; rintro e v1 ⟨rfl, hg⟩; have y0 := grow_cell hg y0; have y1 := grow_cell hg y1; have y2 := grow_cell hg y2; have x0 := grow_cell hg x0; have x1 := grow_cell hg x1; have x2 := grow_cell hg x2; have x3 := grow_cell hg x3; have z0 := grow_cell hg z0; have z1 := grow_cell hg z1; have z2 := grow_cell hg z2; have z3 := grow_cell hg z3; have er := grow_blk er hg; obtain ⟨b0, b1, b2, b3, bf⟩ := box4 er; have hgr := hgr.trans hg) | (go_at_call 280; (with_reducible refine (wordOf_i (v := v) (a := v.Fp + 1) hv (Ty.up _ h3 hgr)).mono ?_); rw [Hq.out]; rintro e v1 ⟨rfl, hg⟩; have y0 := grow_cell hg y0; have y1 := grow_cell hg y1; have y2 := grow_cell hg y2; have x0 := grow_cell hg x0; have x1 := grow_cell hg x1; have x2 := grow_cell hg x2; have x3 := grow_cell hg x3; have z0 := grow_cell hg z0; have z1 := grow_cell hg z1; have z2 := grow_cell hg z2; have z3 := grow_cell hg z3; have er := grow_blk er hg; obtain ⟨b0, b1, b2, b3, bf⟩ := box4 er; have hgr := hgr.trans hg))
              have h2 := set4 er (.int .i64 0) (.int .i64 0) (.int .i64 0) (.slice none 0 0)
              obtain ⟨t0, t1, t2, t3, _⟩ := box4 h2.1
              exact bodyPost_ret (v := .tuple #[.agg #[.int .i64 0, .int .i64 0, .int .i64 0, .slice none 0 0], .bool false]) (by simp [results, Tryz.results180, go_sem, t0, t1, t2, t3]) rfl (RetStep.no HU.out (h2.2.gro hgr (fun b hb => by simp at hb; omega)))
            · have Hq := Lib.hid qe
              have Hq1 := Lib.hid q1
              clear q1
              obtain ⟨kk, hkk⟩ : ∃ kk, (pj + 2) = kk := ⟨_, rfl⟩
              have HKK := Lib.hid hkk
              clear hkk
              have hsx : Small qx := hv.2.2.2 _ (List.mem_of_getElem? q3)
              have hsf : Small px := hv.2.2.2 _ (List.mem_of_getElem? p3)
              have HU : Hid (unwStep s R0 R1 v true = some (unwTo v qx (v.Sp + (kk : Int)) px)) := Lib.hid (by rw [← show v.Fp + 2 = v.Sp + (kk : Int) from by have h1 := Hp1.out; have h2 := Hq1.out; have h9 := HKK.out; omega]; exact HU0.out.trans (HB.out.trans (by rw [Hq.out]; rfl)))
              clear p3 pe q3 qe
              go_wp2_with (first | (go_at_call 280; (with_reducible refine (wordOf_i (v := v) (a := v.Fp) hv (Ty.up _ h3 hgr)).mono ?_); rw [Hp.out]; rintro e v1 ⟨rfl, hg⟩; have y0 := grow_cell hg y0; have y1 := grow_cell hg y1; have y2 := grow_cell hg y2; have x0 := grow_cell hg x0; have x1 := grow_cell hg x1; have x2 := grow_cell hg x2; have x3 := grow_cell hg x3; have z0 := grow_cell hg z0; have z1 := grow_cell hg z1; have z2 := grow_cell hg z2; have z3 := grow_cell hg z3; have er := grow_blk er hg; obtain ⟨b0, b1, b2, b3, bf⟩ := box4 er; have hgr := hgr.trans hg) | (go_at_call 280; (with_reducible refine (wordOf_i (v := v) (a := v.Fp + 1) hv (Ty.up _ h3 hgr)).mono ?_); rw [Hq.out]; rintro e v1 ⟨rfl, hg⟩; have y0 := grow_cell hg y0; have y1 := grow_cell hg y1; have y2 := grow_cell hg y2; have x0 := grow_cell hg x0; have x1 := grow_cell hg x1; have x2 := grow_cell hg x2; have x3 := grow_cell hg x3; have z0 := grow_cell hg z0; have z1 := grow_cell hg z1; have z2 := grow_cell hg z2; have z3 := grow_cell hg z3; have er := grow_blk er hg; obtain ⟨b0, b1, b2, b3, bf⟩ := box4 er; have hgr := hgr.trans hg) | (go_at_call 281; rw [show v.Fp + 2 = v.Sp + (kk : Int) from by have h1 := Hp1.out; have h2 := Hq1.out; have h9 := HKK.out; omega]; (with_reducible refine (moved_i (v := v) (pc := qx) (fp := px) (k := kk) hv hsx hsf (by have h1 := Hp1.out; have h2 := Hq1.out; have h9 := HKK.out; omega) (Ty.up _ h3 hgr)).mono ?_); rintro e v2 ⟨Bv, cv, rfl, hFv, hg⟩; have hgq := hgr; have hzq : g + 1 + 1 < _ := (Array.getElem?_eq_some_iff.1 er).1; have y0 := grow_cell hg y0; have y1 := grow_cell hg y1; have y2 := grow_cell hg y2; have x0 := grow_cell hg x0; have x1 := grow_cell hg x1; have x2 := grow_cell hg x2; have x3 := grow_cell hg x3; have z0 := grow_cell hg z0; have z1 := grow_cell hg z1; have z2 := grow_cell hg z2; have z3 := grow_cell hg z3; have er := grow_blk er hg; obtain ⟨b0, b1, b2, b3, bf⟩ := box4 er; have hgr := hgr.trans hg))
              generalize unwTo v qx (v.Sp + (kk : Int)) px = X at HU hFv ⊢
              have h2 := set4 er (.int .i64 X.Pc) (.int .i64 X.Sp) (.int .i64 X.Fp) (.slice Bv X.Words.length cv)
              obtain ⟨t0, t1, t2, t3, _⟩ := box4 h2.1
              obtain ⟨SS, hHs, hls⟩ := Fresh.has hFv
              have hYs := hgq.size
              have hgY : g + 1 + 1 < Y.heap.size := HGY.out
              have hYv := hgq0.out.size
              exact bodyPost_ret (v := .tuple #[.agg #[.int .i64 X.Pc, .int .i64 X.Sp, .int .i64 X.Fp, .slice Bv X.Words.length cv], .bool true]) (by simp [results, Tryz.results180, go_sem, t0, t1, t2, t3]) rfl (RetStep.yes HU.out ((hHs.keep h2.2 (fun b hb hm => by have h9 := hls b hb; simp at hm; omega)).fresh (fun b hb => by have h9 := hls b hb; omega)) (h2.2.gro hgr (fun b hb => by simp at hb; omega)))
  | false =>
    obtain rfl : v.Pc - 1 = E := hE
    have hpw : IntKind.i64.wrap (v.Pc - 1) = v.Pc - 1 := IntWalk.i64_in _ he
    rcases loc_two HS.out.ok (v.Pc - 1) with hloc | ⟨i, off, hi2, hloc, ho1, ho2⟩
    · have HL := Lib.hid hloc
      have HU := Lib.hid (unwStep_no (R0 := R0) (R1 := R1) (v := v) (inner := false) (by rw [HE.out]; exact hloc))
      clear hloc
      go_wp2_with (first | (go_at_call 80; (with_reducible refine (spaceOk_i (s := s) (HS.out.up hgr).i0 (HS.out.up hgr).i1 (HS.out.up hgr).i2 HS.out.sz).mono ?_); rw [HQ.out]; rintro e v1 ⟨rfl, hg⟩; have y0 := grow_cell hg y0; have y1 := grow_cell hg y1; have y2 := grow_cell hg y2; have x0 := grow_cell hg x0; have x1 := grow_cell hg x1; have x2 := grow_cell hg x2; have x3 := grow_cell hg x3; have er := grow_blk er hg; obtain ⟨b0, b1, b2, b3, bf⟩ := box4 er; have hgr := hgr.trans hg) | (go_at_call 111; (with_reducible refine (viewOk_i v _ _ _ hl).mono ?_); rw [HV.out]; rintro e v1 ⟨rfl, hg⟩; have y0 := grow_cell hg y0; have y1 := grow_cell hg y1; have y2 := grow_cell hg y2; have x0 := grow_cell hg x0; have x1 := grow_cell hg x1; have x2 := grow_cell hg x2; have x3 := grow_cell hg x3; have er := grow_blk er hg; obtain ⟨b0, b1, b2, b3, bf⟩ := box4 er; have hgr := hgr.trans hg) | (go_at_call 263; (with_reducible refine (locI (s := s) (e := v.Pc - 1) (HS.out.up hgr) he).mono ?_); rw [HL.out]; rintro e v1 ⟨rfl, hg⟩; have y0 := grow_cell hg y0; have y1 := grow_cell hg y1; have y2 := grow_cell hg y2; have x0 := grow_cell hg x0; have x1 := grow_cell hg x1; have x2 := grow_cell hg x2; have x3 := grow_cell hg x3; have er := grow_blk er hg; obtain ⟨b0, b1, b2, b3, bf⟩ := box4 er; have hgr := hgr.trans hg))
      have h2 := set4 er (.int .i64 0) (.int .i64 0) (.int .i64 0) (.slice none 0 0)
      obtain ⟨t0, t1, t2, t3, _⟩ := box4 h2.1
      exact bodyPost_ret (v := .tuple #[.agg #[.int .i64 0, .int .i64 0, .int .i64 0, .slice none 0 0], .bool false]) (by simp [results, Tryz.results180, go_sem, t0, t1, t2, t3]) rfl (RetStep.no HU.out (h2.2.gro hgr (fun b hb => by simp at hb; omega)))
    · have HL := Lib.hid hloc
      obtain ⟨Bi, di, Ri, kc, hxi, hri⟩ := HR.out.at hi2
      have HXi := Lib.hid hxi
      have HRI := Lib.hid hri
      have ho : I64 off := ⟨by omega, by omega⟩
      have kc := grow_cell hgr kc
      have hin : ¬ ((i : Int) < 0) := by omega
      have hi0 : (0 : Int) ≤ (i : Int) := by omega
      have hi22 : (i : Int) < 2 := by omega
      clear hloc hxi hri
      rcases findRule_res Ri off with hfi | ⟨j, r, hj, hdp, hfi⟩
      · have HF := Lib.hid hfi
        have HU := Lib.hid (unwStep_far (R0 := R0) (R1 := R1) (v := v) (inner := false) (i := i) (off := off) (by rw [HE.out]; exact HL.out) (by rw [HRI.out]; exact hfi))
        clear hfi
        go_wp2_with (first | (go_at_call 80; (with_reducible refine (spaceOk_i (s := s) (HS.out.up hgr).i0 (HS.out.up hgr).i1 (HS.out.up hgr).i2 HS.out.sz).mono ?_); rw [HQ.out]; rintro e v1 ⟨rfl, hg⟩; have y0 := grow_cell hg y0; have y1 := grow_cell hg y1; have y2 := grow_cell hg y2; have x0 := grow_cell hg x0; have x1 := grow_cell hg x1; have x2 := grow_cell hg x2; have x3 := grow_cell hg x3; have er := grow_blk er hg; obtain ⟨b0, b1, b2, b3, bf⟩ := box4 er; (try have kc := grow_cell hg kc); have hgr := hgr.trans hg) | (go_at_call 111; (with_reducible refine (viewOk_i v _ _ _ hl).mono ?_); rw [HV.out]; rintro e v1 ⟨rfl, hg⟩; have y0 := grow_cell hg y0; have y1 := grow_cell hg y1; have y2 := grow_cell hg y2; have x0 := grow_cell hg x0; have x1 := grow_cell hg x1; have x2 := grow_cell hg x2; have x3 := grow_cell hg x3; have er := grow_blk er hg; obtain ⟨b0, b1, b2, b3, bf⟩ := box4 er; (try have kc := grow_cell hg kc); have hgr := hgr.trans hg) | (go_at_call 263; (with_reducible refine (locI (s := s) (e := v.Pc - 1) (HS.out.up hgr) he).mono ?_); rw [HL.out]; rintro e v1 ⟨rfl, hg⟩; have y0 := grow_cell hg y0; have y1 := grow_cell hg y1; have y2 := grow_cell hg y2; have x0 := grow_cell hg x0; have x1 := grow_cell hg x1; have x2 := grow_cell hg x2; have x3 := grow_cell hg x3; have er := grow_blk er hg; obtain ⟨b0, b1, b2, b3, bf⟩ := box4 er; (try have kc := grow_cell hg kc); have hgr := hgr.trans hg) | (go_at_call 279; (with_reducible refine (findRule_i (rs := Ri) (off := off) (Ty.up _ HXi.out hgr) ho).mono ?_); rw [HF.out]; rintro e v1 ⟨rfl, hg⟩; have y0 := grow_cell hg y0; have y1 := grow_cell hg y1; have y2 := grow_cell hg y2; have x0 := grow_cell hg x0; have x1 := grow_cell hg x1; have x2 := grow_cell hg x2; have x3 := grow_cell hg x3; have er := grow_blk er hg; obtain ⟨b0, b1, b2, b3, bf⟩ := box4 er; (try have kc := grow_cell hg kc); have hgr := hgr.trans hg))
        have h2 := set4 er (.int .i64 0) (.int .i64 0) (.int .i64 0) (.slice none 0 0)
        obtain ⟨t0, t1, t2, t3, _⟩ := box4 h2.1
        exact bodyPost_ret (v := .tuple #[.agg #[.int .i64 0, .int .i64 0, .int .i64 0, .slice none 0 0], .bool false]) (by simp [results, Tryz.results180, go_sem, t0, t1, t2, t3]) rfl (RetStep.no HU.out (h2.2.gro hgr (fun b hb => by simp at hb; omega)))
      · have HF := Lib.hid hfi
        have HU0 := Lib.hid (unwStep_by (R0 := R0) (R1 := R1) (v := v) (inner := false) (i := i) (off := off) (j := j) (r := r) (by rw [HE.out]; exact HL.out) (by rw [HRI.out]; exact hfi) (by rw [HRI.out]; exact hj))
        clear hfi
        obtain ⟨gk, ok, r', hAk, hgk, hrk, m0, m1, m2, m3, _, _, hrd⟩ := atRule HXi.out (k := j) (List.getElem?_eq_some_iff.1 hj).1
        obtain rfl : r' = r := by rw [hj] at hrk; injection hrk with hrk; exact hrk.symm
        subst hAk
        have HJ := Lib.hid hj
        have hjl : (j : Int) < (Ri.length : Int) := by have := (List.getElem?_eq_some_iff.1 hj).1; omega
        have hdep := btw_iff.1 hdp
        have hd64 : IntKind.i64.wrap (v.Sp + r'.Depth) = v.Sp + r'.Depth := IntWalk.i64_in _ ⟨by omega, by omega⟩
        have hd65 : IntKind.i64.wrap (v.Sp + r'.Depth + 1) = v.Sp + r'.Depth + 1 := IntWalk.i64_in _ ⟨by omega, by omega⟩
        have hf64 : IntKind.i64.wrap (v.Fp + 1) = v.Fp + 1 := IntWalk.i64_in _ ⟨by have := hv.2.2.1.1; omega, by have := hv.2.2.1.2; omega⟩
        have hf65 : IntKind.i64.wrap (v.Fp + 2) = v.Fp + 2 := IntWalk.i64_in _ ⟨by have := hv.2.2.1.1; omega, by have := hv.2.2.1.2; omega⟩
        have hjn : ¬ ((j : Int) < 0) := by omega
        have hj0 : (0 : Int) ≤ (j : Int) := by omega
        have m0 := grow_cell hgr m0
        have m1 := grow_cell hgr m1
        have m2 := grow_cell hgr m2
        have m3 := grow_cell hgr m3
        clear hj hrk hdp
        go_upto_region 13 with (first | (go_at_call 80; (with_reducible refine (spaceOk_i (s := s) (HS.out.up hgr).i0 (HS.out.up hgr).i1 (HS.out.up hgr).i2 HS.out.sz).mono ?_); rw [HQ.out]; rintro e v1 ⟨rfl, hg⟩; have y0 := grow_cell hg y0; have y1 := grow_cell hg y1; have y2 := grow_cell hg y2; have x0 := grow_cell hg x0; have x1 := grow_cell hg x1; have x2 := grow_cell hg x2; have x3 := grow_cell hg x3; have er := grow_blk er hg; obtain ⟨b0, b1, b2, b3, bf⟩ := box4 er; have kc := grow_cell hg kc; have m0 := grow_cell hg m0; have m1 := grow_cell hg m1; have m2 := grow_cell hg m2; have m3 := grow_cell hg m3; have hgr := hgr.trans hg) | (go_at_call 111; (with_reducible refine (viewOk_i v _ _ _ hl).mono ?_); rw [HV.out]; rintro e v1 ⟨rfl, hg⟩; have y0 := grow_cell hg y0; have y1 := grow_cell hg y1; have y2 := grow_cell hg y2; have x0 := grow_cell hg x0; have x1 := grow_cell hg x1; have x2 := grow_cell hg x2; have x3 := grow_cell hg x3; have er := grow_blk er hg; obtain ⟨b0, b1, b2, b3, bf⟩ := box4 er; have kc := grow_cell hg kc; have m0 := grow_cell hg m0; have m1 := grow_cell hg m1; have m2 := grow_cell hg m2; have m3 := grow_cell hg m3; have hgr := hgr.trans hg) | (go_at_call 263; (with_reducible refine (locI (s := s) (e := v.Pc - 1) (HS.out.up hgr) he).mono ?_); rw [HL.out]; rintro e v1 ⟨rfl, hg⟩; have y0 := grow_cell hg y0; have y1 := grow_cell hg y1; have y2 := grow_cell hg y2; have x0 := grow_cell hg x0; have x1 := grow_cell hg x1; have x2 := grow_cell hg x2; have x3 := grow_cell hg x3; have er := grow_blk er hg; obtain ⟨b0, b1, b2, b3, bf⟩ := box4 er; have kc := grow_cell hg kc; have m0 := grow_cell hg m0; have m1 := grow_cell hg m1; have m2 := grow_cell hg m2; have m3 := grow_cell hg m3; have hgr := hgr.trans hg) | (go_at_call 279; (with_reducible refine (findRule_i (rs := Ri) (off := off) (Ty.up _ HXi.out hgr) ho).mono ?_); rw [HF.out]; rintro e v1 ⟨rfl, hg⟩; have y0 := grow_cell hg y0; have y1 := grow_cell hg y1; have y2 := grow_cell hg y2; have x0 := grow_cell hg x0; have x1 := grow_cell hg x1; have x2 := grow_cell hg x2; have x3 := grow_cell hg x3; have er := grow_blk er hg; obtain ⟨b0, b1, b2, b3, bf⟩ := box4 er; have kc := grow_cell hg kc; have m0 := grow_cell hg m0; have m1 := grow_cell hg m1; have m2 := grow_cell hg m2; have m3 := grow_cell hg m3; have hgr := hgr.trans hg))
        have hg : Gro v1 (v1.alloc (.cells #[.int .i64 r'.Start, .int .i64 r'.End, .bool r'.Frame, .int .i64 r'.Depth] 254)) := gG
        have ez := heap_alloc_new v1 (.cells #[.int .i64 r'.Start, .int .i64 r'.End, .bool r'.Frame, .int .i64 r'.Depth] 254)
        have hzb : g + 1 + 1 < v1.heap.size := (Array.getElem?_eq_some_iff.1 er).1
        obtain ⟨gz, hgz⟩ : ∃ gz, v1.heap.size = gz := ⟨_, rfl⟩
        rw [hgz] at ez ⊢
        have y0 := grow_cell hg y0
        have y1 := grow_cell hg y1
        have y2 := grow_cell hg y2
        have x0 := grow_cell hg x0
        have x1 := grow_cell hg x1
        have x2 := grow_cell hg x2
        have x3 := grow_cell hg x3
        have er := grow_blk er hg
        obtain ⟨b0, b1, b2, b3, bf⟩ := box4 er
        have hgr := hgr.trans hg
        have kc := grow_cell hg kc
        generalize v1.alloc (.cells #[.int .i64 r'.Start, .int .i64 r'.End, .bool r'.Frame, .int .i64 r'.Depth] 254) = Y2 at ez er kc y0 y1 y2 x0 x1 x2 x3 hgr ⊢
        obtain ⟨z0, z1, z2, z3, _⟩ := box4 ez
        clear hg hgz hzb
        cases hfr : r'.Frame with
        | false =>
          rw [hfr] at z2
          have HB := Lib.hid (unwBy_plain (v := v) hfr)
          rcases wordOf_cases v (v.Sp + r'.Depth) with ⟨_, pe⟩ | ⟨pj, px, p1, p2, p3, _, pe⟩
          · have Hp := Lib.hid pe
            have HU : Hid (unwStep s R0 R1 v false = none) := Lib.hid (HU0.out.trans (HB.out.trans (by rw [Hp.out]; rfl)))
            clear pe
            go_wp2_with (first | (go_at_call 280; (with_reducible refine (wordOf_i (v := v) (a := v.Sp + r'.Depth) hv (Ty.up _ h3 hgr)).mono ?_); rw [Hp.out]; rintro e v1 ⟨rfl, hg⟩; have y0 := grow_cell hg y0; have y1 := grow_cell hg y1; have y2 := grow_cell hg y2; have x0 := grow_cell hg x0; have x1 := grow_cell hg x1; have x2 := grow_cell hg x2; have x3 := grow_cell hg x3; have z0 := grow_cell hg z0; have z1 := grow_cell hg z1; have z2 := grow_cell hg z2; have z3 := grow_cell hg z3; have er := grow_blk er hg; obtain ⟨b0, b1, b2, b3, bf⟩ := box4 er; have hgr := hgr.trans hg))
            have h2 := set4 er (.int .i64 0) (.int .i64 0) (.int .i64 0) (.slice none 0 0)
            obtain ⟨t0, t1, t2, t3, _⟩ := box4 h2.1
            exact bodyPost_ret (v := .tuple #[.agg #[.int .i64 0, .int .i64 0, .int .i64 0, .slice none 0 0], .bool false]) (by simp [results, Tryz.results180, go_sem, t0, t1, t2, t3]) rfl (RetStep.no HU.out (h2.2.gro hgr (fun b hb => by simp at hb; omega)))
          · have Hp := Lib.hid pe
            have Hp1 := Lib.hid p1
            clear p1
            obtain ⟨kk, hkk⟩ : ∃ kk, (pj + 1) = kk := ⟨_, rfl⟩
            have HKK := Lib.hid hkk
            clear hkk
            have hsx : Small px := hv.2.2.2 _ (List.mem_of_getElem? p3)
            have hsf : Small v.Fp := hv.2.2.1
            have HU : Hid (unwStep s R0 R1 v false = some (unwTo v px (v.Sp + (kk : Int)) v.Fp)) := Lib.hid (by rw [← show v.Sp + r'.Depth + 1 = v.Sp + (kk : Int) from by have h1 := Hp1.out; have h9 := HKK.out; omega]; exact HU0.out.trans (HB.out.trans (by rw [Hp.out]; rfl)))
            clear p3 pe
            go_wp2_with (first | (go_at_call 280; (with_reducible refine (wordOf_i (v := v) (a := v.Sp + r'.Depth) hv (Ty.up _ h3 hgr)).mono ?_); rw [Hp.out]; rintro e v1 ⟨rfl, hg⟩; have y0 := grow_cell hg y0; have y1 := grow_cell hg y1; have y2 := grow_cell hg y2; have x0 := grow_cell hg x0; have x1 := grow_cell hg x1; have x2 := grow_cell hg x2; have x3 := grow_cell hg x3; have z0 := grow_cell hg z0; have z1 := grow_cell hg z1; have z2 := grow_cell hg z2; have z3 := grow_cell hg z3; have er := grow_blk er hg; obtain ⟨b0, b1, b2, b3, bf⟩ := box4 er; have hgr := hgr.trans hg) | (go_at_call 281; rw [show v.Sp + r'.Depth + 1 = v.Sp + (kk : Int) from by have h1 := Hp1.out; have h9 := HKK.out; omega]; (with_reducible refine (moved_i (v := v) (pc := px) (fp := v.Fp) (k := kk) hv hsx hsf (by have h1 := Hp1.out; have h9 := HKK.out; omega) (Ty.up _ h3 hgr)).mono ?_); rintro e v2 ⟨Bv, cv, rfl, hFv, hg⟩; have hgq := hgr; have hzq : g + 1 + 1 < _ := (Array.getElem?_eq_some_iff.1 er).1; have y0 := grow_cell hg y0; have y1 := grow_cell hg y1; have y2 := grow_cell hg y2; have x0 := grow_cell hg x0; have x1 := grow_cell hg x1; have x2 := grow_cell hg x2; have x3 := grow_cell hg x3; have z0 := grow_cell hg z0; have z1 := grow_cell hg z1; have z2 := grow_cell hg z2; have z3 := grow_cell hg z3; have er := grow_blk er hg; obtain ⟨b0, b1, b2, b3, bf⟩ := box4 er; have hgr := hgr.trans hg))
            generalize unwTo v px (v.Sp + (kk : Int)) v.Fp = X at HU hFv ⊢
            have h2 := set4 er (.int .i64 X.Pc) (.int .i64 X.Sp) (.int .i64 X.Fp) (.slice Bv X.Words.length cv)
            obtain ⟨t0, t1, t2, t3, _⟩ := box4 h2.1
            obtain ⟨SS, hHs, hls⟩ := Fresh.has hFv
            have hYs := hgq.size
            have hgY : g + 1 + 1 < Y.heap.size := HGY.out
            have hYv := hgq0.out.size
            exact bodyPost_ret (v := .tuple #[.agg #[.int .i64 X.Pc, .int .i64 X.Sp, .int .i64 X.Fp, .slice Bv X.Words.length cv], .bool true]) (by simp [results, Tryz.results180, go_sem, t0, t1, t2, t3]) rfl (RetStep.yes HU.out ((hHs.keep h2.2 (fun b hb hm => by have h9 := hls b hb; simp at hm; omega)).fresh (fun b hb => by have h9 := hls b hb; omega)) (h2.2.gro hgr (fun b hb => by simp at hb; omega)))
        | true =>
          rw [hfr] at z2
          rcases wordOf_cases v (v.Fp) with ⟨_, pe⟩ | ⟨pj, px, p1, p2, p3, _, pe⟩
          · have Hp := Lib.hid pe
            have HU : Hid (unwStep s R0 R1 v false = none) := Lib.hid (HU0.out.trans (unwBy_no hfr Hp.out))
            clear pe
            go_wp2_with (first | (go_at_call 280; (with_reducible refine (wordOf_i (v := v) (a := v.Fp) hv (Ty.up _ h3 hgr)).mono ?_); rw [Hp.out]; rintro e v1 ⟨rfl, hg⟩; have y0 := grow_cell hg y0; have y1 := grow_cell hg y1; have y2 := grow_cell hg y2; have x0 := grow_cell hg x0; have x1 := grow_cell hg x1; have x2 := grow_cell hg x2; have x3 := grow_cell hg x3; have z0 := grow_cell hg z0; have z1 := grow_cell hg z1; have z2 := grow_cell hg z2; have z3 := grow_cell hg z3; have er := grow_blk er hg; obtain ⟨b0, b1, b2, b3, bf⟩ := box4 er; have hgr := hgr.trans hg) | (go_at_call 280; (with_reducible refine (wordOf_i (v := v) (a := v.Fp + 1) hv (Ty.up _ h3 hgr)).mono ?_); rintro e v1 ⟨rfl, hg⟩; have y0 := grow_cell hg y0; have y1 := grow_cell hg y1; have y2 := grow_cell hg y2; have x0 := grow_cell hg x0; have x1 := grow_cell hg x1; have x2 := grow_cell hg x2; have x3 := grow_cell hg x3; have z0 := grow_cell hg z0; have z1 := grow_cell hg z1; have z2 := grow_cell hg z2; have z3 := grow_cell hg z3; have er := grow_blk er hg; obtain ⟨b0, b1, b2, b3, bf⟩ := box4 er; have hgr := hgr.trans hg))
            have h2 := set4 er (.int .i64 0) (.int .i64 0) (.int .i64 0) (.slice none 0 0)
            obtain ⟨t0, t1, t2, t3, _⟩ := box4 h2.1
            exact bodyPost_ret (v := .tuple #[.agg #[.int .i64 0, .int .i64 0, .int .i64 0, .slice none 0 0], .bool false]) (by simp [results, Tryz.results180, go_sem, t0, t1, t2, t3]) rfl (RetStep.no HU.out (h2.2.gro hgr (fun b hb => by simp at hb; omega)))
          · have Hp := Lib.hid pe
            have Hp1 := Lib.hid p1
            clear p1
            have HB := Lib.hid (unwBy_frame (v := v) hfr Hp.out)
            rcases wordOf_cases v (v.Fp + 1) with ⟨_, qe⟩ | ⟨qj, qx, q1, q2, q3, _, qe⟩
            · have Hq := Lib.hid qe
              have HU : Hid (unwStep s R0 R1 v false = none) := Lib.hid (HU0.out.trans (HB.out.trans (by rw [Hq.out]; rfl)))
              clear pe qe p3
              go_wp2_with (first | (go_at_call 280; (with_reducible refine (wordOf_i (v := v) (a := v.Fp) hv (Ty.up _ h3 hgr)).mono ?_); rw [Hp.out]; rintro e v1 ⟨rfl, hg⟩; have y0 := grow_cell hg y0; have y1 := grow_cell hg y1; have y2 := grow_cell hg y2; have x0 := grow_cell hg x0; have x1 := grow_cell hg x1; have x2 := grow_cell hg x2; have x3 := grow_cell hg x3; have z0 := grow_cell hg z0; have z1 := grow_cell hg z1; have z2 := grow_cell hg z2; have z3 := grow_cell hg z3; have er := grow_blk er hg; obtain ⟨b0, b1, b2, b3, bf⟩ := box4 er; have hgr := hgr.trans hg) | (go_at_call 280; (with_reducible refine (wordOf_i (v := v) (a := v.Fp + 1) hv (Ty.up _ h3 hgr)).mono ?_); rw [Hq.out]; rintro e v1 ⟨rfl, hg⟩; have y0 := grow_cell hg y0; have y1 := grow_cell hg y1; have y2 := grow_cell hg y2; have x0 := grow_cell hg x0; have x1 := grow_cell hg x1; have x2 := grow_cell hg x2; have x3 := grow_cell hg x3; have z0 := grow_cell hg z0; have z1 := grow_cell hg z1; have z2 := grow_cell hg z2; have z3 := grow_cell hg z3; have er := grow_blk er hg; obtain ⟨b0, b1, b2, b3, bf⟩ := box4 er; have hgr := hgr.trans hg))
              have h2 := set4 er (.int .i64 0) (.int .i64 0) (.int .i64 0) (.slice none 0 0)
              obtain ⟨t0, t1, t2, t3, _⟩ := box4 h2.1
              exact bodyPost_ret (v := .tuple #[.agg #[.int .i64 0, .int .i64 0, .int .i64 0, .slice none 0 0], .bool false]) (by simp [results, Tryz.results180, go_sem, t0, t1, t2, t3]) rfl (RetStep.no HU.out (h2.2.gro hgr (fun b hb => by simp at hb; omega)))
            · have Hq := Lib.hid qe
              have Hq1 := Lib.hid q1
              clear q1
              obtain ⟨kk, hkk⟩ : ∃ kk, (pj + 2) = kk := ⟨_, rfl⟩
              have HKK := Lib.hid hkk
              clear hkk
              have hsx : Small qx := hv.2.2.2 _ (List.mem_of_getElem? q3)
              have hsf : Small px := hv.2.2.2 _ (List.mem_of_getElem? p3)
              have HU : Hid (unwStep s R0 R1 v false = some (unwTo v qx (v.Sp + (kk : Int)) px)) := Lib.hid (by rw [← show v.Fp + 2 = v.Sp + (kk : Int) from by have h1 := Hp1.out; have h2 := Hq1.out; have h9 := HKK.out; omega]; exact HU0.out.trans (HB.out.trans (by rw [Hq.out]; rfl)))
              clear p3 pe q3 qe
              go_wp2_with (first | (go_at_call 280; (with_reducible refine (wordOf_i (v := v) (a := v.Fp) hv (Ty.up _ h3 hgr)).mono ?_); rw [Hp.out]; rintro e v1 ⟨rfl, hg⟩; have y0 := grow_cell hg y0; have y1 := grow_cell hg y1; have y2 := grow_cell hg y2; have x0 := grow_cell hg x0; have x1 := grow_cell hg x1; have x2 := grow_cell hg x2; have x3 := grow_cell hg x3; have z0 := grow_cell hg z0; have z1 := grow_cell hg z1; have z2 := grow_cell hg z2; have z3 := grow_cell hg z3; have er := grow_blk er hg; obtain ⟨b0, b1, b2, b3, bf⟩ := box4 er; have hgr := hgr.trans hg) | (go_at_call 280; (with_reducible refine (wordOf_i (v := v) (a := v.Fp + 1) hv (Ty.up _ h3 hgr)).mono ?_); rw [Hq.out]; rintro e v1 ⟨rfl, hg⟩; have y0 := grow_cell hg y0; have y1 := grow_cell hg y1; have y2 := grow_cell hg y2; have x0 := grow_cell hg x0; have x1 := grow_cell hg x1; have x2 := grow_cell hg x2; have x3 := grow_cell hg x3; have z0 := grow_cell hg z0; have z1 := grow_cell hg z1; have z2 := grow_cell hg z2; have z3 := grow_cell hg z3; have er := grow_blk er hg; obtain ⟨b0, b1, b2, b3, bf⟩ := box4 er; have hgr := hgr.trans hg) | (go_at_call 281; rw [show v.Fp + 2 = v.Sp + (kk : Int) from by have h1 := Hp1.out; have h2 := Hq1.out; have h9 := HKK.out; omega]; (with_reducible refine (moved_i (v := v) (pc := qx) (fp := px) (k := kk) hv hsx hsf (by have h1 := Hp1.out; have h2 := Hq1.out; have h9 := HKK.out; omega) (Ty.up _ h3 hgr)).mono ?_); rintro e v2 ⟨Bv, cv, rfl, hFv, hg⟩; have hgq := hgr; have hzq : g + 1 + 1 < _ := (Array.getElem?_eq_some_iff.1 er).1; have y0 := grow_cell hg y0; have y1 := grow_cell hg y1; have y2 := grow_cell hg y2; have x0 := grow_cell hg x0; have x1 := grow_cell hg x1; have x2 := grow_cell hg x2; have x3 := grow_cell hg x3; have z0 := grow_cell hg z0; have z1 := grow_cell hg z1; have z2 := grow_cell hg z2; have z3 := grow_cell hg z3; have er := grow_blk er hg; obtain ⟨b0, b1, b2, b3, bf⟩ := box4 er; have hgr := hgr.trans hg))
              generalize unwTo v qx (v.Sp + (kk : Int)) px = X at HU hFv ⊢
              have h2 := set4 er (.int .i64 X.Pc) (.int .i64 X.Sp) (.int .i64 X.Fp) (.slice Bv X.Words.length cv)
              obtain ⟨t0, t1, t2, t3, _⟩ := box4 h2.1
              obtain ⟨SS, hHs, hls⟩ := Fresh.has hFv
              have hYs := hgq.size
              have hgY : g + 1 + 1 < Y.heap.size := HGY.out
              have hYv := hgq0.out.size
              exact bodyPost_ret (v := .tuple #[.agg #[.int .i64 X.Pc, .int .i64 X.Sp, .int .i64 X.Fp, .slice Bv X.Words.length cv], .bool true]) (by simp [results, Tryz.results180, go_sem, t0, t1, t2, t3]) rfl (RetStep.yes HU.out ((hHs.keep h2.2 (fun b hb hm => by have h9 := hls b hb; simp at hm; omega)).fresh (fun b hb => by have h9 := hls b hb; omega)) (h2.2.gro hgr (fun b hb => by simp at hb; omega)))
end Go.Proofs.YtgodpjnbhmahaaaGreat
namespace Go.Proofs.YtgodpjnbhmahaaaGreat
open Go.RowKit
set_option maxRecDepth 100000 in
set_option maxHeartbeats 4000000 in
theorem unwind_i {s : DSpace} {R0 R1 : List DRule} {v : DView} {w : World} {A0 A1 A2 A B0 B1 : Option Addr} {c0 c1 c2 c d0 d1 gr ov cr : Nat} (hS : SpaceR s w A0 A1 A2 c0 c1 c2) (hR : RulesR w gr ov R0 R1 B0 B1 d0 d1) (hv : viewIn v) (h3 : (intT.sl 3).R w w.heap.size [.slice A v.Words.length c] v.Words) :
    Calls Tryz.prog 87 #[.agg #[.slice A0 s.Images.length c0, .slice A1 s.Bases.length c1, .slice A2 s.Entries.length c2], .slice (some ⟨gr, ov, none⟩) 2 cr, .agg #[.int .i64 v.Pc, .int .i64 v.Sp, .int .i64 v.Fp, .slice A v.Words.length c]] w (RetUn (unwind s R0 R1 v) w) := by
  have hpc := hv.2.1.i64
  have HV := Lib.hid hv
  clear hv
  go_enter Tryz.func87, Tryz.ntmps87
  go_upto_region 2 with (fail)
  have hG0 : Gro w (((w.alloc (.cells #[.slice A0 s.Images.length c0, .slice A1 s.Bases.length c1, .slice A2 s.Entries.length c2] 28)).alloc (.cells #[.int .i64 v.Pc, .int .i64 v.Sp, .int .i64 v.Fp, .slice A v.Words.length c] 49)).alloc (.cells #[.int .i64 v.Pc] 3)) := gG
  have e3 := heap_alloc_new w (.cells #[.slice A0 s.Images.length c0, .slice A1 s.Bases.length c1, .slice A2 s.Entries.length c2] 28)
  have e5 := heap_alloc_new (w.alloc (.cells #[.slice A0 s.Images.length c0, .slice A1 s.Bases.length c1, .slice A2 s.Entries.length c2] 28)) (.cells #[.int .i64 v.Pc, .int .i64 v.Sp, .int .i64 v.Fp, .slice A v.Words.length c] 49)
  have e8 := heap_alloc_new ((w.alloc (.cells #[.slice A0 s.Images.length c0, .slice A1 s.Bases.length c1, .slice A2 s.Entries.length c2] 28)).alloc (.cells #[.int .i64 v.Pc, .int .i64 v.Sp, .int .i64 v.Fp, .slice A v.Words.length c] 49)) (.cells #[.int .i64 v.Pc] 3)
  simp only [World.size_alloc] at e5 e8 ⊢
  obtain ⟨g, hg0⟩ : ∃ g, w.heap.size = g := ⟨_, rfl⟩
  have hwg : w.heap.size ≤ g := by omega
  rw [hg0] at e3 e5 e8 ⊢
  have e3 := grow_blk (grow_blk e3 ((Gro.refl _).alloc (.cells #[.int .i64 v.Pc, .int .i64 v.Sp, .int .i64 v.Fp, .slice A v.Words.length c] 49))) ((Gro.refl _).alloc (.cells #[.int .i64 v.Pc] 3))
  have e5 := grow_blk e5 ((Gro.refl _).alloc (.cells #[.int .i64 v.Pc] 3))
  generalize ((w.alloc (.cells #[.slice A0 s.Images.length c0, .slice A1 s.Bases.length c1, .slice A2 s.Entries.length c2] 28)).alloc (.cells #[.int .i64 v.Pc, .int .i64 v.Sp, .int .i64 v.Fp, .slice A v.Words.length c] 49)).alloc (.cells #[.int .i64 v.Pc] 3) = Y at hG0 e3 e5 e8 ⊢
  clear hg0
  go_loopw [8] (fun z wr => ∃ (ys : List Int) (x : DView) (A8 : Option Addr) (c8 : Nat) (S : List Nat) (B : Option Addr) (k : Nat), z = .slice A8 ys.length c8 ∧ 1 ≤ ys.length ∧ ys.length ≤ 40 ∧ Hid (Gro w wr) ∧ Hid (wr.heap[g]? = some (.cells #[.slice A0 s.Images.length c0, .slice A1 s.Bases.length c1, .slice A2 s.Entries.length c2] 28 (0, 0))) ∧ Hid (wr.heap[g + 1]? = some (.cells #[.int .i64 x.Pc, .int .i64 x.Sp, .int .i64 x.Fp, .slice B x.Words.length k] 49 (0, 0))) ∧ Hid (viewIn x) ∧ Hid (Has (intT.sl 3) wr [.slice A8 ys.length c8] ys S) ∧ Hid (∀ b ∈ S, g + 1 < b) ∧ Hid (WordsAt w wr S (.slice B x.Words.length k) x.Words) ∧ Hid (unwGo s R0 R1 (40 - ys.length) ys x = unwind s R0 R1 v)) (fun z _ => 40 - slLen z)
  case atStart => exact ⟨[v.Pc], v, _, 1, [g + 1 + 1], A, c, rfl, by simp, by simp, Lib.hid hG0, Lib.hid e3, Lib.hid e5, HV, Lib.hid (int_one e8 hpc), Lib.hid (fun b hb => by simp at hb; omega), Lib.hid (.inl h3), Lib.hid rfl⟩
  case round =>
    obtain ⟨ys, x, A8, c8, S, B, k, rfl, hy1, hy40, hG, h3', h5', hX, hH, hSg, hW, hE⟩ := hrel
    have hS2 : Hid (∀ b ∈ S, w.heap.size ≤ b) := Lib.hid (fun b hb => by have := hSg.out b hb; omega)
    have e3 := h3'.out
    have e5 := h5'.out
    obtain ⟨z0, z1, z2, _⟩ := row3 e3
    obtain ⟨x0, x1, x2, x3, _⟩ := box4 e5
    have hgl : g + 1 < wr.heap.size := (Array.getElem?_eq_some_iff.1 e5).1
    clear e3
    by_cases hlt : ys.length < 40
    · have hli : (ys.length : Int) < 40 := by omega
      obtain ⟨inner, hin⟩ : ∃ b, ((ys.length : Int) == 1) = b := ⟨_, rfl⟩
      have hind : decide (ys.length = 1) = inner := by
        rw [← hin]
        by_cases h1 : ys.length = 1
        · rw [decide_eq_true h1, h1]; rfl
        · rw [decide_eq_false h1]
          exact (beq_eq_false_iff_ne.2 (by omega)).symm
      obtain ⟨o, ho⟩ : ∃ o, unwStep s R0 R1 x (decide (ys.length = 1)) = o := ⟨_, rfl⟩
      have HU := Lib.hid (show unwStep s R0 R1 x inner = o from by rw [← hind]; exact ho)
      have HO := Lib.hid ho
      clear ho hind
      cases o with
      | none =>
        have HF := Lib.hid (hE.out.symm.trans (unwGo_no (by omega) HO.out))
        go_wp2_with (go_at_call 180; (with_reducible refine (unwStep_i (hS.up hG.out) (hR.up hG.out) hX.out (hW.out.read hG.out)).mono ?_); rw [HU.out]; intro e v2 hr; obtain ⟨rfl, hg2⟩ := hr.out_no)
        exact bodyPost_ret (v := .tuple #[.slice A8 ys.length c8, .bool false]) (by simp [results, Tryz.results87, go_sem]) rfl (RetUn.mk (hH.out.gro (hg2.trans gF)) HF.out rfl hS2.out (hG.out.trans (hg2.trans gG)))
      | some y =>
        have HY := Lib.hid (unwStep_in hX.out HU.out)
        by_cases hp : y.Pc = 0
        · have HF := Lib.hid (hE.out.symm.trans (unwGo_end (by omega) HO.out hp))
          have hpb : (y.Pc == 0) = true := beq_iff_eq.2 hp
          clear hp
          go_wp2_with (go_at_call 180; (with_reducible refine (unwStep_i (hS.up hG.out) (hR.up hG.out) hX.out (hW.out.read hG.out)).mono ?_); rw [HU.out]; intro e v2 hr; obtain ⟨B2, k2, Sw, rfl, hHw, hSw, hyi, hg2⟩ := hr.out_yes)
          exact bodyPost_ret (v := .tuple #[.slice A8 ys.length c8, .bool true]) (by simp [results, Tryz.results87, go_sem]) rfl (RetUn.mk (hH.out.gro (hg2.trans gF)) HF.out rfl hS2.out (hG.out.trans (hg2.trans gG)))
        · have HF := Lib.hid ((unwGo_more (m := 40 - (ys.length + 1)) (by omega) HO.out hp).symm.trans hE.out)
          have hpb : (y.Pc == 0) = false := beq_eq_false_iff_ne.2 hp
          clear hp
          go_upto_region 9 with (first
            | (go_at_call 180; (with_reducible refine (unwStep_i (hS.up hG.out) (hR.up hG.out) hX.out (hW.out.read hG.out)).mono ?_); rw [HU.out]; intro e v2 hr; obtain ⟨B2, k2, Sw, rfl, hHw, hSw, hyi, hg2⟩ := hr.out_yes; have e9 := heap_alloc_new v2 (.cells #[.int .i64 y.Pc, .int .i64 y.Sp, .int .i64 y.Fp, .slice B2 y.Words.length k2] 49))
            | (refine wpList_append_hasf (L := ys.length + 1) (y := y.Pc) rfl (.tmp 34) (.tmp 37) elInt flat_int (S := S) (hH.out.gro (hg2.trans gF)) (ec := [.int .i64 y.Pc]) (W1 := w) (B := w.heap.size) ⟨rfl, hyi.1, hyi.2⟩ rfl rfl rfl (by intro j u hu; simpa [go_sem] using hu) rfl (by omega) (by omega) ?_; intro A9 c9 W9 S9 hon hH9 hS9))
          have hSl : ∀ b ∈ S, b < v2.heap.size := fun b hb => by have := hH.out.lt b hb; have := hg2.size; omega
          have hv2 : g + 1 < v2.heap.size := Nat.lt_of_lt_of_le hgl hg2.size
          have hSw2 : ∀ b ∈ Sw, b < v2.heap.size := hHw.lt
          have e9 := frz_thru e9 ((Gro.refl _).alloc _) hon (fun hm => by have := hSl _ hm; omega)
          have e3 := frz_thru h3'.out ((hg2.alloc _).alloc _) hon (fun hm => by have := hSg.out _ hm; omega)
          have e5 := frz_thru h5'.out ((hg2.alloc _).alloc _) hon (fun hm => by have := hSg.out _ hm; omega)
          have hgr9 : Gro w W9 := hon.gro (hG.out.trans ((hg2.alloc _).alloc _)) hS2.out
          have HW9 := Lib.hid (((hHw.gro ((Gro.refl _).alloc _)).gro ((Gro.refl _).alloc _)).keep hon (fun b hb hm => by have := hSw b hb; have := hH.out.lt _ hm; omega))
          have hd9 : Hid (∀ b ∈ S9, b ∉ Sw) := Lib.hid (fun b hb hm => by
            rcases hS9 b hb with h | h
            · have := hH.out.lt b h; have := hSw b hm; omega
            · have := hSw2 b hm; simp at h; omega)
          have hs9 : Hid (∀ b ∈ S9, g + 1 < b) := Lib.hid (fun b hb => by
            rcases hS9 b hb with h | h
            · exact hSg.out b h
            · simp at h; omega)
          have hw9 : Hid (∀ b ∈ Sw, g + 1 < b) := Lib.hid (fun b hb => by have := hSw b hb; omega)
          obtain ⟨g9, hg9⟩ : ∃ g9, v2.heap.size = g9 := ⟨_, rfl⟩
          rw [hg9] at e9 ⊢
          have HH9 := Lib.hid hH9
          clear hSw2 hSl hSw hS9 hon hHw hg2 hg9 hv2 hH9 z0 z1 z2 x0 x1 x2 x3
          obtain ⟨n0, n1, n2, n3, _⟩ := box4 e9
          obtain ⟨x0, x1, x2, x3, xf⟩ := box4 e5
          obtain ⟨s1, s2⟩ := set4 e5 (.int .i64 y.Pc) (.int .i64 y.Sp) (.int .i64 y.Fp) (.slice B2 y.Words.length k2)
          have s3 := frz_thru e3 (Gro.refl _) s2 (by simp)
          have hG9 := Lib.hid (s2.gro hgr9 (fun b hb => by simp at hb; omega))
          have hH9' := Lib.hid (HH9.out.keep s2 (fun b hb hm => by simp at hm; have := hs9.out b hb; omega))
          have hW9' := Lib.hid (HW9.out.keep s2 (fun b hb hm => by simp at hm; have := hw9.out b hb; omega))
          have S1 := Lib.hid s1
          have S3 := Lib.hid s3
          clear s1 s2 s3 e3 e9 HW9 HH9 hgr9
          go_wp2_with (fail)
          go_roundw
          case measure => (simp [slLen]; try omega)
          case rel => exact ⟨ys ++ [y.Pc], y, A9, c9, S9, B2, k2, by simp, by simp, by simp; omega, hG9, S3, S1, HY, Lib.hid (by simpa using hH9'.out), hs9, Lib.hid (.inr ⟨Sw, hW9'.out, hd9.out⟩), Lib.hid (by rw [← HF.out, List.length_append]; rfl)⟩
    · have hli : ¬ ((ys.length : Int) < 40) := by omega
      have HF := Lib.hid (hE.out.symm.trans (unwGo_zero (by omega)))
      have hg2 : Gro wr wr := Gro.refl _
      go_wp2_with (fail)
      exact bodyPost_ret (v := .tuple #[.slice A8 ys.length c8, .bool false]) (by simp [results, Tryz.results87, go_sem]) rfl (RetUn.mk hH.out HF.out rfl hS2.out (hG.out.trans (hg2.trans gG)))
end Go.Proofs.YtgodpjnbhmahaaaGreat
namespace Go.Proofs.YtgodpjnbhmahaaaGreat
open Go.RowKit
theorem agentOk_parts {a : DAgent} (h : agentOk a = true) : spaceOk a.Space = true ∧ a.Debugs.length = 2 := by
  unfold agentOk at h
  simp only [Bool.and_eq_true, decide_eq_true_eq] at h
  exact ⟨h.1.1, h.1.2⟩
theorem sampleOk_view {x : DSample} (h : sampleOk x = true) : viewIn x.View := by
  unfold sampleOk at h
  simp only [Bool.and_eq_true, List.all_eq_true, btw_iff] at h
  obtain ⟨_, h1, h2, h3, h4⟩ := h
  exact ⟨h1, ⟨by omega, by omega⟩, ⟨by omega, by omega⟩, fun z hz => ⟨by have := h4 z hz; omega, by have := h4 z hz; omega⟩⟩
def RetPa (xs : List DFrame) (w : World) (r : Ending) (w' : World) : Prop := ∃ A c S, r = .returned (.slice A xs.length c) ∧ Has (tFrame.sl 59) w' [.slice A xs.length c] xs S ∧ (∀ b ∈ S, w.heap.size ≤ b) ∧ Gro w w'
theorem RetPa.nil {xs : List DFrame} {w w' : World} (he : xs = []) (hg : Gro w w') : RetPa xs w (.returned (.slice none 0 0)) w' := by
  subst he
  exact ⟨none, 0, [], rfl, Has.nil _ _ _, by simp, hg⟩
theorem RetPa.mk {xs ys : List DFrame} {w w' : World} {A : Option Addr} {n c : Nat} {S : List Nat} (h : Has (tFrame.sl 59) w' [.slice A n c] ys S) (he : ys = xs) (hn : n = ys.length) (hS : ∀ b ∈ S, w.heap.size ≤ b) (hg : Gro w w') : RetPa xs w (.returned (.slice A n c)) w' := by
  subst he hn
  exact ⟨A, c, S, rfl, h, hS, hg⟩
def RetPs (p : List DFrame × Bool) (w : World) (r : Ending) (w' : World) : Prop := ∃ A c S, r = .returned (.tuple #[.slice A p.1.length c, .bool p.2]) ∧ Has (tFrame.sl 59) w' [.slice A p.1.length c] p.1 S ∧ (∀ b ∈ S, w.heap.size ≤ b) ∧ Gro w w'
theorem RetPs.nil {p : List DFrame × Bool} {w w' : World} (he : p = ([], false)) (hg : Gro w w') : RetPs p w (.returned (.tuple #[.slice none 0 0, .bool false])) w' := by
  subst he
  exact ⟨none, 0, [], rfl, Has.nil _ _ _, by simp, hg⟩
theorem RetPs.mk {p : List DFrame × Bool} {ys : List DFrame} {b : Bool} {w w' : World} {A : Option Addr} {n c : Nat} {S : List Nat} (h : Has (tFrame.sl 59) w' [.slice A n c] ys S) (he : (ys, b) = p) (hn : n = ys.length) (hS : ∀ b ∈ S, w.heap.size ≤ b) (hg : Gro w w') : RetPs p w (.returned (.tuple #[.slice A n c, .bool b])) w' := by
  subst he hn
  exact ⟨A, c, S, rfl, h, hS, hg⟩
theorem unwA_len {a : DAgent} {x : DSample} : (unwA a x).1.length ≤ 40 := unwind_len
theorem knownGo_el {a : DAgent} {start : Bool} (hn : ∀ d ∈ a.Debugs, d.Inlines.length ≤ 1048576) : ∀ (es : List Int) (k : Nat), ∀ f ∈ knownGo a start es k, f.length ≤ 1048577
  | [], _, f, h => by cases h
  | e :: es, k, f, h => by
    unfold knownGo at h
    cases hf : fAt a start k e with
    | none => rw [hf] at h; cases h
    | some g =>
      rw [hf] at h
      rcases List.mem_cons.1 h with rfl | h
      · exact fAt_len hn hf
      · exact knownGo_el hn es (k + 1) f h
set_option maxRecDepth 100000 in
set_option maxHeartbeats 4000000 in
theorem stackOf_i {a : DAgent} {x : DSample} {start : Bool} {w : World} {A0 A1 A2 A3 A4 : Option Addr} {c0 c1 c2 c3 c4 : Nat} (h0 : (tImage.sl 113).R w w.heap.size [.slice A0 a.Space.Images.length c0] a.Space.Images) (h1 : (intT.sl 3).R w w.heap.size [.slice A1 a.Space.Bases.length c1] a.Space.Bases)
    (h2 : (intT.sl 3).R w w.heap.size [.slice A2 a.Space.Entries.length c2] a.Space.Entries) (h3 : (tDebug.sl 97).R w w.heap.size [.slice A3 a.Debugs.length c3] a.Debugs) (h4 : (intT.sl 3).R w w.heap.size [.slice A4 x.View.Words.length c4] x.View.Words) (hsz : szSpace a.Space ≤ 1099511627776) (hn : ∀ d ∈ a.Debugs, d.Inlines.length ≤ 1048576) (hsw : x.View.Words.length ≤ 1099511627776) :
    Calls Tryz.prog 23 #[.agg #[.slice A0 a.Space.Images.length c0, .slice A1 a.Space.Bases.length c1, .slice A2 a.Space.Entries.length c2, .slice A3 a.Debugs.length c3], .agg #[.int .i64 x.Thread, .int .i64 x.View.Pc, .int .i64 x.View.Sp, .int .i64 x.View.Fp, .slice A4 x.View.Words.length c4], .bool start] w (RetPs (stackOf a x start) w) := by
  obtain ⟨q, hq⟩ : ∃ q, agentOk a = q := ⟨_, rfl⟩
  have HA := Lib.hid hq
  obtain ⟨p, hp⟩ : ∃ p, sampleOk x = p := ⟨_, rfl⟩
  have HX := Lib.hid hp
  cases q with
  | false =>
    have HF := Lib.hid (show stackOf a x start = ([], false) from by unfold stackOf; rw [if_neg (by rw [hq]; simp)])
    clear hq hp
    go_enter Tryz.func23, Tryz.ntmps23
    go_upto_region 1 with (fail)
    have hgr : Gro w ((w.alloc (.cells #[.slice A0 a.Space.Images.length c0, .slice A1 a.Space.Bases.length c1, .slice A2 a.Space.Entries.length c2, .slice A3 a.Debugs.length c3] 31)).alloc (.cells #[.int .i64 x.Thread, .int .i64 x.View.Pc, .int .i64 x.View.Sp, .int .i64 x.View.Fp, .slice A4 x.View.Words.length c4] 51)) := gG
    have ea := heap_alloc_new w (.cells #[.slice A0 a.Space.Images.length c0, .slice A1 a.Space.Bases.length c1, .slice A2 a.Space.Entries.length c2, .slice A3 a.Debugs.length c3] 31)
    have es := heap_alloc_new (w.alloc (.cells #[.slice A0 a.Space.Images.length c0, .slice A1 a.Space.Bases.length c1, .slice A2 a.Space.Entries.length c2, .slice A3 a.Debugs.length c3] 31)) (.cells #[.int .i64 x.Thread, .int .i64 x.View.Pc, .int .i64 x.View.Sp, .int .i64 x.View.Fp, .slice A4 x.View.Words.length c4] 51)
    simp only [World.size_alloc] at es ⊢
    have ea := grow_blk ea ((Gro.refl _).alloc (.cells #[.int .i64 x.Thread, .int .i64 x.View.Pc, .int .i64 x.View.Sp, .int .i64 x.View.Fp, .slice A4 x.View.Words.length c4] 51))
    obtain ⟨g0, hg0⟩ : ∃ g0, w.heap.size = g0 := ⟨_, rfl⟩
    rw [hg0] at ea es ⊢
    have hwg : w.heap.size ≤ g0 := by omega
    clear hg0
    generalize (w.alloc (.cells #[.slice A0 a.Space.Images.length c0, .slice A1 a.Space.Bases.length c1, .slice A2 a.Space.Entries.length c2, .slice A3 a.Debugs.length c3] 31)).alloc (.cells #[.int .i64 x.Thread, .int .i64 x.View.Pc, .int .i64 x.View.Sp, .int .i64 x.View.Fp, .slice A4 x.View.Words.length c4] 51) = Y at hgr ea es ⊢
    have hgy := Gro.refl Y
    obtain ⟨y0, y1, y2, y3, _, hgY⟩ := row4 ea
    obtain ⟨s0, s1, s2, s3, s4, _⟩ := row5 es
    clear ea es
    go_wp2_with (first | (go_at_call 28; (with_reducible refine (agentOk_i (a := a) (Ty.up _ h0 hgr) (Ty.up _ h1 hgr) (Ty.up _ h2 hgr) (Ty.up _ h3 hgr) hsz).mono ?_); rw [HA.out]; rintro e v1 ⟨rfl, hg⟩; have y0 := grow_cell hg y0; have y1 := grow_cell hg y1; have y2 := grow_cell hg y2; have y3 := grow_cell hg y3; have s0 := grow_cell hg s0; have s1 := grow_cell hg s1; have s2 := grow_cell hg s2; have s3 := grow_cell hg s3; have s4 := grow_cell hg s4; have hgr := hgr.trans hg; have hgy := hgy.trans hg) | (go_at_call 48; (with_reducible refine (sampleOk_i (x := x) (Ty.up _ h4 hgr) hsw).mono ?_); rw [HX.out]; rintro e v1 ⟨rfl, hg⟩; have y0 := grow_cell hg y0; have y1 := grow_cell hg y1; have y2 := grow_cell hg y2; have y3 := grow_cell hg y3; have s0 := grow_cell hg s0; have s1 := grow_cell hg s1; have s2 := grow_cell hg s2; have s3 := grow_cell hg s3; have s4 := grow_cell hg s4; have hgr := hgr.trans hg; have hgy := hgy.trans hg))
    exact bodyPost_ret (v := .tuple #[.slice none 0 0, .bool false]) (by simp [results, Tryz.results23, go_sem]) rfl (RetPs.nil HF.out hgr)
  | true =>
    cases p with
    | false =>
      have HF := Lib.hid (show stackOf a x start = ([], false) from by unfold stackOf; rw [if_neg (by rw [hp]; simp)])
      clear hq hp
      go_enter Tryz.func23, Tryz.ntmps23
      go_upto_region 1 with (fail)
      have hgr : Gro w ((w.alloc (.cells #[.slice A0 a.Space.Images.length c0, .slice A1 a.Space.Bases.length c1, .slice A2 a.Space.Entries.length c2, .slice A3 a.Debugs.length c3] 31)).alloc (.cells #[.int .i64 x.Thread, .int .i64 x.View.Pc, .int .i64 x.View.Sp, .int .i64 x.View.Fp, .slice A4 x.View.Words.length c4] 51)) := gG
      have ea := heap_alloc_new w (.cells #[.slice A0 a.Space.Images.length c0, .slice A1 a.Space.Bases.length c1, .slice A2 a.Space.Entries.length c2, .slice A3 a.Debugs.length c3] 31)
      have es := heap_alloc_new (w.alloc (.cells #[.slice A0 a.Space.Images.length c0, .slice A1 a.Space.Bases.length c1, .slice A2 a.Space.Entries.length c2, .slice A3 a.Debugs.length c3] 31)) (.cells #[.int .i64 x.Thread, .int .i64 x.View.Pc, .int .i64 x.View.Sp, .int .i64 x.View.Fp, .slice A4 x.View.Words.length c4] 51)
      simp only [World.size_alloc] at es ⊢
      have ea := grow_blk ea ((Gro.refl _).alloc (.cells #[.int .i64 x.Thread, .int .i64 x.View.Pc, .int .i64 x.View.Sp, .int .i64 x.View.Fp, .slice A4 x.View.Words.length c4] 51))
      obtain ⟨g0, hg0⟩ : ∃ g0, w.heap.size = g0 := ⟨_, rfl⟩
      rw [hg0] at ea es ⊢
      have hwg : w.heap.size ≤ g0 := by omega
      clear hg0
      generalize (w.alloc (.cells #[.slice A0 a.Space.Images.length c0, .slice A1 a.Space.Bases.length c1, .slice A2 a.Space.Entries.length c2, .slice A3 a.Debugs.length c3] 31)).alloc (.cells #[.int .i64 x.Thread, .int .i64 x.View.Pc, .int .i64 x.View.Sp, .int .i64 x.View.Fp, .slice A4 x.View.Words.length c4] 51) = Y at hgr ea es ⊢
      have hgy := Gro.refl Y
      obtain ⟨y0, y1, y2, y3, _, hgY⟩ := row4 ea
      obtain ⟨s0, s1, s2, s3, s4, _⟩ := row5 es
      clear ea es
      go_wp2_with (first | (go_at_call 28; (with_reducible refine (agentOk_i (a := a) (Ty.up _ h0 hgr) (Ty.up _ h1 hgr) (Ty.up _ h2 hgr) (Ty.up _ h3 hgr) hsz).mono ?_); rw [HA.out]; rintro e v1 ⟨rfl, hg⟩; have y0 := grow_cell hg y0; have y1 := grow_cell hg y1; have y2 := grow_cell hg y2; have y3 := grow_cell hg y3; have s0 := grow_cell hg s0; have s1 := grow_cell hg s1; have s2 := grow_cell hg s2; have s3 := grow_cell hg s3; have s4 := grow_cell hg s4; have hgr := hgr.trans hg; have hgy := hgy.trans hg) | (go_at_call 48; (with_reducible refine (sampleOk_i (x := x) (Ty.up _ h4 hgr) hsw).mono ?_); rw [HX.out]; rintro e v1 ⟨rfl, hg⟩; have y0 := grow_cell hg y0; have y1 := grow_cell hg y1; have y2 := grow_cell hg y2; have y3 := grow_cell hg y3; have s0 := grow_cell hg s0; have s1 := grow_cell hg s1; have s2 := grow_cell hg s2; have s3 := grow_cell hg s3; have s4 := grow_cell hg s4; have hgr := hgr.trans hg; have hgy := hgy.trans hg))
      exact bodyPost_ret (v := .tuple #[.slice none 0 0, .bool false]) (by simp [results, Tryz.results23, go_sem]) rfl (RetPs.nil HF.out hgr)
    | true =>
      have HF := Lib.hid (show stackOf a x start = if (unwA a x).2 = true ∧ allGo a start (unwA a x).1 0 = true then (outw (valsGo a start (unwA a x).1 0), true) else ([], false) from by
        unfold stackOf
        by_cases h : (unwA a x).2 = true ∧ allGo a start (unwA a x).1 0 = true
        · rw [if_pos ⟨hq, hp, h⟩, if_pos h]
        · rw [if_neg (fun hh => h hh.2.2), if_neg h])
      have hA : AgentR a w A0 A1 A2 A3 c0 c1 c2 c3 := ⟨⟨h0, h1, h2, (agentOk_parts hq).1, hsz⟩, h3, (agentOk_parts hq).2, hn⟩
      have hv := sampleOk_view hp
      clear hq hp
      cases hu2 : (unwA a x).2 with
      | false =>
        have HF2 : Hid (stackOf a x start = ([], false)) := Lib.hid (by rw [HF.out, if_neg (by rw [hu2]; simp)])
        have HU2 := Lib.hid (show (unwind a.Space (rulesA a 0) (rulesA a 1) x.View).2 = false from hu2)
        clear HF hu2
        go_enter Tryz.func23, Tryz.ntmps23
        go_upto_region 1 with (fail)
        have hgr : Gro w ((w.alloc (.cells #[.slice A0 a.Space.Images.length c0, .slice A1 a.Space.Bases.length c1, .slice A2 a.Space.Entries.length c2, .slice A3 a.Debugs.length c3] 31)).alloc (.cells #[.int .i64 x.Thread, .int .i64 x.View.Pc, .int .i64 x.View.Sp, .int .i64 x.View.Fp, .slice A4 x.View.Words.length c4] 51)) := gG
        have ea := heap_alloc_new w (.cells #[.slice A0 a.Space.Images.length c0, .slice A1 a.Space.Bases.length c1, .slice A2 a.Space.Entries.length c2, .slice A3 a.Debugs.length c3] 31)
        have es := heap_alloc_new (w.alloc (.cells #[.slice A0 a.Space.Images.length c0, .slice A1 a.Space.Bases.length c1, .slice A2 a.Space.Entries.length c2, .slice A3 a.Debugs.length c3] 31)) (.cells #[.int .i64 x.Thread, .int .i64 x.View.Pc, .int .i64 x.View.Sp, .int .i64 x.View.Fp, .slice A4 x.View.Words.length c4] 51)
        simp only [World.size_alloc] at es ⊢
        have ea := grow_blk ea ((Gro.refl _).alloc (.cells #[.int .i64 x.Thread, .int .i64 x.View.Pc, .int .i64 x.View.Sp, .int .i64 x.View.Fp, .slice A4 x.View.Words.length c4] 51))
        obtain ⟨g0, hg0⟩ : ∃ g0, w.heap.size = g0 := ⟨_, rfl⟩
        rw [hg0] at ea es ⊢
        have hwg : w.heap.size ≤ g0 := by omega
        clear hg0
        generalize (w.alloc (.cells #[.slice A0 a.Space.Images.length c0, .slice A1 a.Space.Bases.length c1, .slice A2 a.Space.Entries.length c2, .slice A3 a.Debugs.length c3] 31)).alloc (.cells #[.int .i64 x.Thread, .int .i64 x.View.Pc, .int .i64 x.View.Sp, .int .i64 x.View.Fp, .slice A4 x.View.Words.length c4] 51) = Y at hgr ea es ⊢
        have hgy := Gro.refl Y
        obtain ⟨y0, y1, y2, y3, _, hgY⟩ := row4 ea
        obtain ⟨s0, s1, s2, s3, s4, _⟩ := row5 es
        clear ea es
        go_wp2_with (first | (go_at_call 28; (with_reducible refine (agentOk_i (a := a) (Ty.up _ h0 hgr) (Ty.up _ h1 hgr) (Ty.up _ h2 hgr) (Ty.up _ h3 hgr) hsz).mono ?_); rw [HA.out]; rintro e v1 ⟨rfl, hg⟩; have y0 := grow_cell hg y0; have y1 := grow_cell hg y1; have y2 := grow_cell hg y2; have y3 := grow_cell hg y3; have s0 := grow_cell hg s0; have s1 := grow_cell hg s1; have s2 := grow_cell hg s2; have s3 := grow_cell hg s3; have s4 := grow_cell hg s4; have hgr := hgr.trans hg; have hgy := hgy.trans hg) | (go_at_call 48; (with_reducible refine (sampleOk_i (x := x) (Ty.up _ h4 hgr) hsw).mono ?_); rw [HX.out]; rintro e v1 ⟨rfl, hg⟩; have y0 := grow_cell hg y0; have y1 := grow_cell hg y1; have y2 := grow_cell hg y2; have y3 := grow_cell hg y3; have s0 := grow_cell hg s0; have s1 := grow_cell hg s1; have s2 := grow_cell hg s2; have s3 := grow_cell hg s3; have s4 := grow_cell hg s4; have hgr := hgr.trans hg; have hgy := hgy.trans hg))
        go_region_held3 (fun w' => w'.cell? ⟨g0, 0, none⟩ = some (.slice A0 a.Space.Images.length c0) ∧ w'.cell? ⟨g0, 1, none⟩ = some (.slice A1 a.Space.Bases.length c1) ∧ w'.cell? ⟨g0, 2, none⟩ = some (.slice A2 a.Space.Entries.length c2) ∧ w'.cell? ⟨g0, 3, none⟩ = some (.slice A3 a.Debugs.length c3) ∧ w'.cell? ⟨g0 + 1, 1, none⟩ = some (.int .i64 x.View.Pc) ∧ w'.cell? ⟨g0 + 1, 2, none⟩ = some (.int .i64 x.View.Sp) ∧ w'.cell? ⟨g0 + 1, 3, none⟩ = some (.int .i64 x.View.Fp) ∧ w'.cell? ⟨g0 + 1, 4, none⟩ = some (.slice A4 x.View.Words.length c4)) ((repeat' apply And.intro) <;> ((repeat (first | with_reducible assumption | with_reducible refine drew_keeps ?_)); done)) (first | (go_at_call 88; (with_reducible refine (rulesOf2_i (a := a) (hA.up (hgr.trans gF))).mono ?_); rintro e v1 ⟨gr, cr, B0, B1, k0, k1, rfl, hRu, hg1⟩; have y0 := grow_cell (Gro.trans (b := _) gF hg1) y0; have y1 := grow_cell (Gro.trans (b := _) gF hg1) y1; have y2 := grow_cell (Gro.trans (b := _) gF hg1) y2; have y3 := grow_cell (Gro.trans (b := _) gF hg1) y3; have s0 := grow_cell (Gro.trans (b := _) gF hg1) s0; have s1 := grow_cell (Gro.trans (b := _) gF hg1) s1; have s2 := grow_cell (Gro.trans (b := _) gF hg1) s2; have s3 := grow_cell (Gro.trans (b := _) gF hg1) s3; have s4 := grow_cell (Gro.trans (b := _) gF hg1) s4; have hgr := hgr.trans (Gro.trans (b := _) gF hg1); have hgy := hgy.trans (Gro.trans (b := _) gF hg1)) | (go_at_call 87; (with_reducible refine (unwind_i (s := a.Space) (hA.sp.up (hgr.trans gF)) (hRu.up gF) hv (Ty.up _ h4 (hgr.trans gF))).mono ?_); rintro e v2 ⟨AU, cU, SU, rfl, hHU, hSU, hgU⟩; have y0 := grow_cell (Gro.trans (b := _) gF hgU) y0; have y1 := grow_cell (Gro.trans (b := _) gF hgU) y1; have y2 := grow_cell (Gro.trans (b := _) gF hgU) y2; have y3 := grow_cell (Gro.trans (b := _) gF hgU) y3; have s0 := grow_cell (Gro.trans (b := _) gF hgU) s0; have s1 := grow_cell (Gro.trans (b := _) gF hgU) s1; have s2 := grow_cell (Gro.trans (b := _) gF hgU) s2; have s3 := grow_cell (Gro.trans (b := _) gF hgU) s3; have s4 := grow_cell (Gro.trans (b := _) gF hgU) s4; have hgr := hgr.trans (Gro.trans (b := _) gF hgU); have hgy := hgy.trans (Gro.trans (b := _) gF hgU)))
        obtain ⟨es, hes⟩ : ∃ es, (unwind a.Space (rulesA a 0) (rulesA a 1) x.View).1 = es := ⟨_, rfl⟩
        have hel40 : es.length ≤ 40 := by rw [← hes]; exact unwind_len
        have hel : es.length ≤ 1000 := by omega
        have hsm : ∀ e ∈ es, Small e := by rw [← hes]; exact unwind_small hv
        have hkk := knownGo_len (a := a) (start := start) es 0
        have hlk : (knownGo a start es 0).length ≤ 1000 := by omega
        have hsk := knownGo_el (start := start) hn es 0
        rw [hes] at hHU ⊢
        rw [HU2.out]
        clear hkk hes
        go_wp2_with (first | (go_at_call 89; (with_reducible refine (known_i (a := a) (es := es) (start := start) (hA.up (hgr.trans gF)) (Ty.up _ hHU.read gF) hel hsm).mono ?_); rintro e v3 ⟨AK, cK, SK, rfl, hHK, hSK, hgK⟩; have y0 := grow_cell (Gro.trans (b := _) gF hgK) y0; have y1 := grow_cell (Gro.trans (b := _) gF hgK) y1; have y2 := grow_cell (Gro.trans (b := _) gF hgK) y2; have y3 := grow_cell (Gro.trans (b := _) gF hgK) y3; have s0 := grow_cell (Gro.trans (b := _) gF hgK) s0; have s1 := grow_cell (Gro.trans (b := _) gF hgK) s1; have s2 := grow_cell (Gro.trans (b := _) gF hgK) s2; have s3 := grow_cell (Gro.trans (b := _) gF hgK) s3; have s4 := grow_cell (Gro.trans (b := _) gF hgK) s4) | (go_at_call 90; (with_reducible refine (outward_i (l := knownGo a start es 0) (Ty.up _ hHK.read gF) hlk hsk).mono ?_); rintro e v4 ⟨AO, cO, SO, rfl, hHO, hSO, hgO⟩))
        exact bodyPost_ret (v := .tuple #[.slice none 0 0, .bool false]) (by simp [results, Tryz.results23, go_sem]) rfl (RetPs.nil HF2.out (hgr.trans (Gro.trans (b := _) gF hgK)))
      | true =>
        have HU2 := Lib.hid (show (unwind a.Space (rulesA a 0) (rulesA a 1) x.View).2 = true from hu2)
        rcases known_all (a := a) (start := start) (unwA a x).1 0 with ⟨hal, hkv, hkl⟩ | ⟨hal, hkl⟩
        · have HF2 : Hid (stackOf a x start = (outw (knownGo a start (unwA a x).1 0), true)) := Lib.hid (by rw [HF.out, if_pos ⟨hu2, hal⟩, hkv])
          have HKL := Lib.hid hkl
          clear HF hu2 hal hkv hkl
          go_enter Tryz.func23, Tryz.ntmps23
          go_upto_region 1 with (fail)
          have hgr : Gro w ((w.alloc (.cells #[.slice A0 a.Space.Images.length c0, .slice A1 a.Space.Bases.length c1, .slice A2 a.Space.Entries.length c2, .slice A3 a.Debugs.length c3] 31)).alloc (.cells #[.int .i64 x.Thread, .int .i64 x.View.Pc, .int .i64 x.View.Sp, .int .i64 x.View.Fp, .slice A4 x.View.Words.length c4] 51)) := gG
          have ea := heap_alloc_new w (.cells #[.slice A0 a.Space.Images.length c0, .slice A1 a.Space.Bases.length c1, .slice A2 a.Space.Entries.length c2, .slice A3 a.Debugs.length c3] 31)
          have es := heap_alloc_new (w.alloc (.cells #[.slice A0 a.Space.Images.length c0, .slice A1 a.Space.Bases.length c1, .slice A2 a.Space.Entries.length c2, .slice A3 a.Debugs.length c3] 31)) (.cells #[.int .i64 x.Thread, .int .i64 x.View.Pc, .int .i64 x.View.Sp, .int .i64 x.View.Fp, .slice A4 x.View.Words.length c4] 51)
          simp only [World.size_alloc] at es ⊢
          have ea := grow_blk ea ((Gro.refl _).alloc (.cells #[.int .i64 x.Thread, .int .i64 x.View.Pc, .int .i64 x.View.Sp, .int .i64 x.View.Fp, .slice A4 x.View.Words.length c4] 51))
          obtain ⟨g0, hg0⟩ : ∃ g0, w.heap.size = g0 := ⟨_, rfl⟩
          rw [hg0] at ea es ⊢
          have hwg : w.heap.size ≤ g0 := by omega
          clear hg0
          generalize (w.alloc (.cells #[.slice A0 a.Space.Images.length c0, .slice A1 a.Space.Bases.length c1, .slice A2 a.Space.Entries.length c2, .slice A3 a.Debugs.length c3] 31)).alloc (.cells #[.int .i64 x.Thread, .int .i64 x.View.Pc, .int .i64 x.View.Sp, .int .i64 x.View.Fp, .slice A4 x.View.Words.length c4] 51) = Y at hgr ea es ⊢
          have hgy := Gro.refl Y
          obtain ⟨y0, y1, y2, y3, _, hgY⟩ := row4 ea
          obtain ⟨s0, s1, s2, s3, s4, _⟩ := row5 es
          clear ea es
          go_wp2_with (first | (go_at_call 28; (with_reducible refine (agentOk_i (a := a) (Ty.up _ h0 hgr) (Ty.up _ h1 hgr) (Ty.up _ h2 hgr) (Ty.up _ h3 hgr) hsz).mono ?_); rw [HA.out]; rintro e v1 ⟨rfl, hg⟩; have y0 := grow_cell hg y0; have y1 := grow_cell hg y1; have y2 := grow_cell hg y2; have y3 := grow_cell hg y3; have s0 := grow_cell hg s0; have s1 := grow_cell hg s1; have s2 := grow_cell hg s2; have s3 := grow_cell hg s3; have s4 := grow_cell hg s4; have hgr := hgr.trans hg; have hgy := hgy.trans hg) | (go_at_call 48; (with_reducible refine (sampleOk_i (x := x) (Ty.up _ h4 hgr) hsw).mono ?_); rw [HX.out]; rintro e v1 ⟨rfl, hg⟩; have y0 := grow_cell hg y0; have y1 := grow_cell hg y1; have y2 := grow_cell hg y2; have y3 := grow_cell hg y3; have s0 := grow_cell hg s0; have s1 := grow_cell hg s1; have s2 := grow_cell hg s2; have s3 := grow_cell hg s3; have s4 := grow_cell hg s4; have hgr := hgr.trans hg; have hgy := hgy.trans hg))
          go_region_held3 (fun w' => w'.cell? ⟨g0, 0, none⟩ = some (.slice A0 a.Space.Images.length c0) ∧ w'.cell? ⟨g0, 1, none⟩ = some (.slice A1 a.Space.Bases.length c1) ∧ w'.cell? ⟨g0, 2, none⟩ = some (.slice A2 a.Space.Entries.length c2) ∧ w'.cell? ⟨g0, 3, none⟩ = some (.slice A3 a.Debugs.length c3) ∧ w'.cell? ⟨g0 + 1, 1, none⟩ = some (.int .i64 x.View.Pc) ∧ w'.cell? ⟨g0 + 1, 2, none⟩ = some (.int .i64 x.View.Sp) ∧ w'.cell? ⟨g0 + 1, 3, none⟩ = some (.int .i64 x.View.Fp) ∧ w'.cell? ⟨g0 + 1, 4, none⟩ = some (.slice A4 x.View.Words.length c4)) ((repeat' apply And.intro) <;> ((repeat (first | with_reducible assumption | with_reducible refine drew_keeps ?_)); done)) (first | (go_at_call 88; (with_reducible refine (rulesOf2_i (a := a) (hA.up (hgr.trans gF))).mono ?_); rintro e v1 ⟨gr, cr, B0, B1, k0, k1, rfl, hRu, hg1⟩; have y0 := grow_cell (Gro.trans (b := _) gF hg1) y0; have y1 := grow_cell (Gro.trans (b := _) gF hg1) y1; have y2 := grow_cell (Gro.trans (b := _) gF hg1) y2; have y3 := grow_cell (Gro.trans (b := _) gF hg1) y3; have s0 := grow_cell (Gro.trans (b := _) gF hg1) s0; have s1 := grow_cell (Gro.trans (b := _) gF hg1) s1; have s2 := grow_cell (Gro.trans (b := _) gF hg1) s2; have s3 := grow_cell (Gro.trans (b := _) gF hg1) s3; have s4 := grow_cell (Gro.trans (b := _) gF hg1) s4; have hgr := hgr.trans (Gro.trans (b := _) gF hg1); have hgy := hgy.trans (Gro.trans (b := _) gF hg1)) | (go_at_call 87; (with_reducible refine (unwind_i (s := a.Space) (hA.sp.up (hgr.trans gF)) (hRu.up gF) hv (Ty.up _ h4 (hgr.trans gF))).mono ?_); rintro e v2 ⟨AU, cU, SU, rfl, hHU, hSU, hgU⟩; have y0 := grow_cell (Gro.trans (b := _) gF hgU) y0; have y1 := grow_cell (Gro.trans (b := _) gF hgU) y1; have y2 := grow_cell (Gro.trans (b := _) gF hgU) y2; have y3 := grow_cell (Gro.trans (b := _) gF hgU) y3; have s0 := grow_cell (Gro.trans (b := _) gF hgU) s0; have s1 := grow_cell (Gro.trans (b := _) gF hgU) s1; have s2 := grow_cell (Gro.trans (b := _) gF hgU) s2; have s3 := grow_cell (Gro.trans (b := _) gF hgU) s3; have s4 := grow_cell (Gro.trans (b := _) gF hgU) s4; have hgr := hgr.trans (Gro.trans (b := _) gF hgU); have hgy := hgy.trans (Gro.trans (b := _) gF hgU)))
          obtain ⟨es, hes⟩ : ∃ es, (unwind a.Space (rulesA a 0) (rulesA a 1) x.View).1 = es := ⟨_, rfl⟩
          have hel40 : es.length ≤ 40 := by rw [← hes]; exact unwind_len
          have hel : es.length ≤ 1000 := by omega
          have hsm : ∀ e ∈ es, Small e := by rw [← hes]; exact unwind_small hv
          have hkk := knownGo_len (a := a) (start := start) es 0
          have hlk : (knownGo a start es 0).length ≤ 1000 := by omega
          have hsk := knownGo_el (start := start) hn es 0
          rw [hes] at hHU ⊢
          rw [HU2.out]
          have HF3 : Hid (stackOf a x start = (outw (knownGo a start es 0), true)) := Lib.hid (by rw [← hes]; exact HF2.out)
          have hkeq : ¬ (((knownGo a start es 0).length : Int) < (es.length : Int)) := by have h := HKL.out; unfold unwA at h; rw [hes] at h; omega
          clear hkk hes
          go_wp2_with (first | (go_at_call 89; (with_reducible refine (known_i (a := a) (es := es) (start := start) (hA.up (hgr.trans gF)) (Ty.up _ hHU.read gF) hel hsm).mono ?_); rintro e v3 ⟨AK, cK, SK, rfl, hHK, hSK, hgK⟩; have y0 := grow_cell (Gro.trans (b := _) gF hgK) y0; have y1 := grow_cell (Gro.trans (b := _) gF hgK) y1; have y2 := grow_cell (Gro.trans (b := _) gF hgK) y2; have y3 := grow_cell (Gro.trans (b := _) gF hgK) y3; have s0 := grow_cell (Gro.trans (b := _) gF hgK) s0; have s1 := grow_cell (Gro.trans (b := _) gF hgK) s1; have s2 := grow_cell (Gro.trans (b := _) gF hgK) s2; have s3 := grow_cell (Gro.trans (b := _) gF hgK) s3; have s4 := grow_cell (Gro.trans (b := _) gF hgK) s4) | (go_at_call 90; (with_reducible refine (outward_i (l := knownGo a start es 0) (Ty.up _ hHK.read gF) hlk hsk).mono ?_); rintro e v4 ⟨AO, cO, SO, rfl, hHO, hSO, hgO⟩))
          have hw3 : w.heap.size ≤ v3.heap.size := (hgr.trans (Gro.trans (b := _) gF hgK)).size
          exact bodyPost_ret (v := .tuple #[.slice AO (outw (knownGo a start es 0)).length cO, .bool true]) (by simp [results, Tryz.results23, go_sem]) rfl (RetPs.mk hHO HF3.out.symm rfl (fun b hb => Nat.le_trans hw3 (hSO b hb)) (hgr.trans ((Gro.trans (b := _) gF hgK).trans (Gro.trans (b := _) gF hgO))))
        · have HF2 : Hid (stackOf a x start = ([], false)) := Lib.hid (by rw [HF.out, if_neg (fun h => by rw [hal] at h; cases h.2)])
          have HKL := Lib.hid hkl
          clear HF hu2 hal hkl
          go_enter Tryz.func23, Tryz.ntmps23
          go_upto_region 1 with (fail)
          have hgr : Gro w ((w.alloc (.cells #[.slice A0 a.Space.Images.length c0, .slice A1 a.Space.Bases.length c1, .slice A2 a.Space.Entries.length c2, .slice A3 a.Debugs.length c3] 31)).alloc (.cells #[.int .i64 x.Thread, .int .i64 x.View.Pc, .int .i64 x.View.Sp, .int .i64 x.View.Fp, .slice A4 x.View.Words.length c4] 51)) := gG
          have ea := heap_alloc_new w (.cells #[.slice A0 a.Space.Images.length c0, .slice A1 a.Space.Bases.length c1, .slice A2 a.Space.Entries.length c2, .slice A3 a.Debugs.length c3] 31)
          have es := heap_alloc_new (w.alloc (.cells #[.slice A0 a.Space.Images.length c0, .slice A1 a.Space.Bases.length c1, .slice A2 a.Space.Entries.length c2, .slice A3 a.Debugs.length c3] 31)) (.cells #[.int .i64 x.Thread, .int .i64 x.View.Pc, .int .i64 x.View.Sp, .int .i64 x.View.Fp, .slice A4 x.View.Words.length c4] 51)
          simp only [World.size_alloc] at es ⊢
          have ea := grow_blk ea ((Gro.refl _).alloc (.cells #[.int .i64 x.Thread, .int .i64 x.View.Pc, .int .i64 x.View.Sp, .int .i64 x.View.Fp, .slice A4 x.View.Words.length c4] 51))
          obtain ⟨g0, hg0⟩ : ∃ g0, w.heap.size = g0 := ⟨_, rfl⟩
          rw [hg0] at ea es ⊢
          have hwg : w.heap.size ≤ g0 := by omega
          clear hg0
          generalize (w.alloc (.cells #[.slice A0 a.Space.Images.length c0, .slice A1 a.Space.Bases.length c1, .slice A2 a.Space.Entries.length c2, .slice A3 a.Debugs.length c3] 31)).alloc (.cells #[.int .i64 x.Thread, .int .i64 x.View.Pc, .int .i64 x.View.Sp, .int .i64 x.View.Fp, .slice A4 x.View.Words.length c4] 51) = Y at hgr ea es ⊢
          have hgy := Gro.refl Y
          obtain ⟨y0, y1, y2, y3, _, hgY⟩ := row4 ea
          obtain ⟨s0, s1, s2, s3, s4, _⟩ := row5 es
          clear ea es
          go_wp2_with (first | (go_at_call 28; (with_reducible refine (agentOk_i (a := a) (Ty.up _ h0 hgr) (Ty.up _ h1 hgr) (Ty.up _ h2 hgr) (Ty.up _ h3 hgr) hsz).mono ?_); rw [HA.out]; rintro e v1 ⟨rfl, hg⟩; have y0 := grow_cell hg y0; have y1 := grow_cell hg y1; have y2 := grow_cell hg y2; have y3 := grow_cell hg y3; have s0 := grow_cell hg s0; have s1 := grow_cell hg s1; have s2 := grow_cell hg s2; have s3 := grow_cell hg s3; have s4 := grow_cell hg s4; have hgr := hgr.trans hg; have hgy := hgy.trans hg) | (go_at_call 48; (with_reducible refine (sampleOk_i (x := x) (Ty.up _ h4 hgr) hsw).mono ?_); rw [HX.out]; rintro e v1 ⟨rfl, hg⟩; have y0 := grow_cell hg y0; have y1 := grow_cell hg y1; have y2 := grow_cell hg y2; have y3 := grow_cell hg y3; have s0 := grow_cell hg s0; have s1 := grow_cell hg s1; have s2 := grow_cell hg s2; have s3 := grow_cell hg s3; have s4 := grow_cell hg s4; have hgr := hgr.trans hg; have hgy := hgy.trans hg))
          go_region_held3 (fun w' => w'.cell? ⟨g0, 0, none⟩ = some (.slice A0 a.Space.Images.length c0) ∧ w'.cell? ⟨g0, 1, none⟩ = some (.slice A1 a.Space.Bases.length c1) ∧ w'.cell? ⟨g0, 2, none⟩ = some (.slice A2 a.Space.Entries.length c2) ∧ w'.cell? ⟨g0, 3, none⟩ = some (.slice A3 a.Debugs.length c3) ∧ w'.cell? ⟨g0 + 1, 1, none⟩ = some (.int .i64 x.View.Pc) ∧ w'.cell? ⟨g0 + 1, 2, none⟩ = some (.int .i64 x.View.Sp) ∧ w'.cell? ⟨g0 + 1, 3, none⟩ = some (.int .i64 x.View.Fp) ∧ w'.cell? ⟨g0 + 1, 4, none⟩ = some (.slice A4 x.View.Words.length c4)) ((repeat' apply And.intro) <;> ((repeat (first | with_reducible assumption | with_reducible refine drew_keeps ?_)); done)) (first | (go_at_call 88; (with_reducible refine (rulesOf2_i (a := a) (hA.up (hgr.trans gF))).mono ?_); rintro e v1 ⟨gr, cr, B0, B1, k0, k1, rfl, hRu, hg1⟩; have y0 := grow_cell (Gro.trans (b := _) gF hg1) y0; have y1 := grow_cell (Gro.trans (b := _) gF hg1) y1; have y2 := grow_cell (Gro.trans (b := _) gF hg1) y2; have y3 := grow_cell (Gro.trans (b := _) gF hg1) y3; have s0 := grow_cell (Gro.trans (b := _) gF hg1) s0; have s1 := grow_cell (Gro.trans (b := _) gF hg1) s1; have s2 := grow_cell (Gro.trans (b := _) gF hg1) s2; have s3 := grow_cell (Gro.trans (b := _) gF hg1) s3; have s4 := grow_cell (Gro.trans (b := _) gF hg1) s4; have hgr := hgr.trans (Gro.trans (b := _) gF hg1); have hgy := hgy.trans (Gro.trans (b := _) gF hg1)) | (go_at_call 87; (with_reducible refine (unwind_i (s := a.Space) (hA.sp.up (hgr.trans gF)) (hRu.up gF) hv (Ty.up _ h4 (hgr.trans gF))).mono ?_); rintro e v2 ⟨AU, cU, SU, rfl, hHU, hSU, hgU⟩; have y0 := grow_cell (Gro.trans (b := _) gF hgU) y0; have y1 := grow_cell (Gro.trans (b := _) gF hgU) y1; have y2 := grow_cell (Gro.trans (b := _) gF hgU) y2; have y3 := grow_cell (Gro.trans (b := _) gF hgU) y3; have s0 := grow_cell (Gro.trans (b := _) gF hgU) s0; have s1 := grow_cell (Gro.trans (b := _) gF hgU) s1; have s2 := grow_cell (Gro.trans (b := _) gF hgU) s2; have s3 := grow_cell (Gro.trans (b := _) gF hgU) s3; have s4 := grow_cell (Gro.trans (b := _) gF hgU) s4; have hgr := hgr.trans (Gro.trans (b := _) gF hgU); have hgy := hgy.trans (Gro.trans (b := _) gF hgU)))
          obtain ⟨es, hes⟩ : ∃ es, (unwind a.Space (rulesA a 0) (rulesA a 1) x.View).1 = es := ⟨_, rfl⟩
          have hel40 : es.length ≤ 40 := by rw [← hes]; exact unwind_len
          have hel : es.length ≤ 1000 := by omega
          have hsm : ∀ e ∈ es, Small e := by rw [← hes]; exact unwind_small hv
          have hkk := knownGo_len (a := a) (start := start) es 0
          have hlk : (knownGo a start es 0).length ≤ 1000 := by omega
          have hsk := knownGo_el (start := start) hn es 0
          rw [hes] at hHU ⊢
          rw [HU2.out]
          have hkeq : ((knownGo a start es 0).length : Int) < (es.length : Int) := by have h := HKL.out; unfold unwA at h; rw [hes] at h; omega
          clear hkk hes
          go_wp2_with (first | (go_at_call 89; (with_reducible refine (known_i (a := a) (es := es) (start := start) (hA.up (hgr.trans gF)) (Ty.up _ hHU.read gF) hel hsm).mono ?_); rintro e v3 ⟨AK, cK, SK, rfl, hHK, hSK, hgK⟩; have y0 := grow_cell (Gro.trans (b := _) gF hgK) y0; have y1 := grow_cell (Gro.trans (b := _) gF hgK) y1; have y2 := grow_cell (Gro.trans (b := _) gF hgK) y2; have y3 := grow_cell (Gro.trans (b := _) gF hgK) y3; have s0 := grow_cell (Gro.trans (b := _) gF hgK) s0; have s1 := grow_cell (Gro.trans (b := _) gF hgK) s1; have s2 := grow_cell (Gro.trans (b := _) gF hgK) s2; have s3 := grow_cell (Gro.trans (b := _) gF hgK) s3; have s4 := grow_cell (Gro.trans (b := _) gF hgK) s4) | (go_at_call 90; (with_reducible refine (outward_i (l := knownGo a start es 0) (Ty.up _ hHK.read gF) hlk hsk).mono ?_); rintro e v4 ⟨AO, cO, SO, rfl, hHO, hSO, hgO⟩))
          exact bodyPost_ret (v := .tuple #[.slice none 0 0, .bool false]) (by simp [results, Tryz.results23, go_sem]) rfl (RetPs.nil HF2.out (hgr.trans (Gro.trans (b := _) gF hgK)))
end Go.Proofs.YtgodpjnbhmahaaaGreat
