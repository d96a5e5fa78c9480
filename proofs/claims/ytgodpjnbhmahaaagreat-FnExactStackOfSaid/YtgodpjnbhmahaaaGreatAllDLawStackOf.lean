/-
  PART 4 of the texts of this claim, one behind the other: contracts and laws that the last part uses.
-/
import Derived.Test.YtgodpjnbhmahaaaGreatAllCLawStackOf
set_option linter.unusedVariables false
set_option linter.unusedSimpArgs false
namespace Go.Proofs.YtgodpjnbhmahaaaGreat
open Go.RowKit
theorem AnyT.skip {P : Program} {ops : Array Oper} {Q : Exit → Act → World → Prop} {md : Region.Mode} {S : World → Prop} {m : Nat} {i : Nat} {oi : Oper} {cs : List Nat} {f : Nat} {listed : Array Bool} {a : Act} {w : World} (hi : ops[i]? = some oi) (hsel : Region.noSelect ops = true) (hf : Region.free md ops listed i = true) (hr : (Region.ready md ops listed).contains i = true)
    (hlk : linksB md ops m i cs = true) (hne : cs.isEmpty = false) (hun : unlB listed cs = true) (hQ : ∀ c a w, Q (.panic c) (a.put oi.dst undef) w → Q (.panic c) a w) (hS : S w)
    (hw : Region.wanted oi (yielded ops a.tmps) = false)
    (h : AnyT P md ops Q S m f (listed.setIfInBounds i true) (a.put oi.dst undef) w) : AnyT P md ops Q S m (f + 1) listed a w :=
  AnyT.first hi hsel hlk (by cases cs <;> simp at hne ⊢) hQ f listed a w (Region.free_spec hi hf) (fun c hc => by
    simp only [unlB, List.all_eq_true, Bool.not_eq_true'] at hun
    exact hun c hc) (by simpa using hr) (.inr ⟨hw, rfl⟩) hS h
theorem grow_cell {a b : World} (h : Gro a b) {p : Addr} {v : Value} (hp : a.cell? p = some v) : b.cell? p = some v := by
  obtain ⟨os, d, rfl⟩ := h
  exact gro_keeps hp os d
theorem row4 {W : World} {g : Nat} {o0 o1 o2 o3 : Value} {e : TypeId} (h : W.heap[g]? = some (.cells #[o0, o1, o2, o3] e (0, 0))) :
    W.cell? ⟨g, 0, none⟩ = some o0 ∧ W.cell? ⟨g, 1, none⟩ = some o1 ∧ W.cell? ⟨g, 2, none⟩ = some o2 ∧ W.cell? ⟨g, 3, none⟩ = some o3 ∧ (∀ j, W.frozen? ⟨g, j, none⟩ = false) ∧ g < W.heap.size := by
  refine ⟨?_, ?_, ?_, ?_, fun j => by simp [World.frozen?, h], (Array.getElem?_eq_some_iff.1 h).1⟩
  all_goals
    rw [cell_of_row W g _ _ _ (0, 0) h]
    rfl
def agentOk (a : DAgent) : Bool := spaceOk a.Space && decide (a.Debugs.length = 2) && (match a.Space.Images, a.Debugs with
  | [i0, i1], [d0, d1] => fitsD i0 d0 && fitsD i1 d1
  | _, _ => false)
theorem two_of {α : Type} {xs : List α} {x y : α} (h : xs.length = 2) (h0 : xs[0]? = some x) (h1 : xs[1]? = some y) : xs = [x, y] := by
  match xs, h with
  | [p, q], _ =>
    simp at h0 h1
    rw [h0, h1]
theorem agentOk_two {a : DAgent} {i0 i1 : DImage} {d0 d1 : DDebug} (hq : spaceOk a.Space = true) (hd : a.Debugs.length = 2) (hi0 : a.Space.Images[0]? = some i0) (hi1 : a.Space.Images[1]? = some i1) (hd0 : a.Debugs[0]? = some d0) (hd1 : a.Debugs[1]? = some d1) :
    agentOk a = (fitsD i0 d0 && fitsD i1 d1) := by
  have h1 : a.Space.Images.length = 2 := by
    have h := hq
    simp only [spaceOk, Bool.and_eq_true, decide_eq_true_eq] at h
    omega
  unfold agentOk
  rw [hq, two_of h1 hi0 hi1, two_of hd hd0 hd1]
  simp
set_option maxRecDepth 100000 in
set_option maxHeartbeats 3000000 in
theorem agentOk_i {a : DAgent} {w : World} {A0 A1 A2 A3 : Option Addr} {c0 c1 c2 c3 : Nat} (h0 : (tImage.sl 113).R w w.heap.size [.slice A0 a.Space.Images.length c0] a.Space.Images) (h1 : (intT.sl 3).R w w.heap.size [.slice A1 a.Space.Bases.length c1] a.Space.Bases)
    (h2 : (intT.sl 3).R w w.heap.size [.slice A2 a.Space.Entries.length c2] a.Space.Entries) (h3 : (tDebug.sl 97).R w w.heap.size [.slice A3 a.Debugs.length c3] a.Debugs) (hs : szSpace a.Space ≤ 1099511627776) :
    Calls Tryz.prog 28 #[.agg #[.slice A0 a.Space.Images.length c0, .slice A1 a.Space.Bases.length c1, .slice A2 a.Space.Entries.length c2, .slice A3 a.Debugs.length c3]] w fun r w' => r = .returned (.bool (agentOk a)) ∧ Gro w w' := by
  have hG0 : Gro w (w.alloc (.cells #[.slice A0 a.Space.Images.length c0, .slice A1 a.Space.Bases.length c1, .slice A2 a.Space.Entries.length c2, .slice A3 a.Debugs.length c3] 31)) := gG
  have eb := heap_alloc_new w (.cells #[.slice A0 a.Space.Images.length c0, .slice A1 a.Space.Bases.length c1, .slice A2 a.Space.Entries.length c2, .slice A3 a.Debugs.length c3] 31)
  have z0 := Ty.up _ h0 hG0
  have z1 := Ty.up _ h1 hG0
  have z2 := Ty.up _ h2 hG0
  have z3 := Ty.up _ h3 hG0
  obtain ⟨g, hg⟩ : ∃ g, w.heap.size = g := ⟨_, rfl⟩
  obtain ⟨q, hq⟩ : ∃ q, spaceOk a.Space = q := ⟨_, rfl⟩
  have HQ := Lib.hid hq
  go_enter Tryz.func28, Tryz.ntmps28
  go_upto_region 1 with (fail)
  rw [hg] at eb
  generalize w.alloc (.cells #[.slice A0 a.Space.Images.length c0, .slice A1 a.Space.Bases.length c1, .slice A2 a.Space.Entries.length c2, .slice A3 a.Debugs.length c3] 31) = Y at hG0 eb z0 z1 z2 z3 ⊢
  clear h0 h1 h2 h3
  obtain ⟨y0, y1, y2, y3, yf, yl⟩ := row4 eb
  cases q with
  | false =>
    have HR := Lib.hid (show agentOk a = false from by unfold agentOk; rw [hq]; rfl)
    clear hq
    refine region_T (fun w' => w'.cell? ⟨g, 0, none⟩ = some (.slice A0 a.Space.Images.length c0) ∧ w'.cell? ⟨g, 1, none⟩ = some (.slice A1 a.Space.Bases.length c1) ∧ w'.cell? ⟨g, 2, none⟩ = some (.slice A2 a.Space.Entries.length c2) ∧ w'.cell? ⟨g, 3, none⟩ = some (.slice A3 a.Debugs.length c3)) 33 (by kernel_rfl) (And.intro (drew_keeps y0) (And.intro (drew_keeps y1) (And.intro (drew_keeps y2) (drew_keeps y3)))) (fun hH => ?_)
    have hdr : Gro Y Y.drew := (Gro.refl _).drew
    clear y0 y1 y2 y3
    generalize Y.drew = wx at hdr hH ⊢
    obtain ⟨y0, y1, y2, y3⟩ := id hH
    refine AnyT.take (i := 0) (cs := [33]) rfl (by kernel_rfl) (by kernel_rfl) (by kernel_rfl) (by kernel_rfl) rfl (by kernel_rfl) (fun _ _ _ h => h) hH (by kernel_rfl) (by intro w hSw; (try dsimp only at hSw); go_simp; (try with_reducible rfl)) ?_
    try simp only [Act.put, List.setIfInBounds_toArray, List.set_cons_zero, List.set_cons_succ]
    refine AnyT.take (i := 1) (cs := [33]) rfl (by kernel_rfl) (by kernel_rfl) (by kernel_rfl) (by kernel_rfl) rfl (by kernel_rfl) (fun _ _ _ h => h) hH (by kernel_rfl) (by intro w hSw; (try dsimp only at hSw); go_simp; (try with_reducible rfl)) ?_
    try simp only [Act.put, List.setIfInBounds_toArray, List.set_cons_zero, List.set_cons_succ]
    refine AnyT.one (i := 2) (by kernel_rfl) rfl (fun K hK => ?_)
    go_simp
    go_at_call 80
    (with_reducible refine (spaceOk_i (s := a.Space) (Ty.up _ z0 hdr) (Ty.up _ z1 hdr) (Ty.up _ z2 hdr) hs).mono ?_); rw [HQ.out]
    rintro e v1 ⟨rfl, hg1⟩
    have hgr1 := hdr.trans hg1
    have y0 := grow_cell hg1 y0
    have y1 := grow_cell hg1 y1
    have y2 := grow_cell hg1 y2
    have y3 := grow_cell hg1 y3
    refine hK.out _ _ (And.intro y0 (And.intro y1 (And.intro y2 y3))) (fun hI => ?_)
    clear hK hH
    have hH := hI
    try simp only [Act.put, List.setIfInBounds_toArray, List.set_cons_zero, List.set_cons_succ]
    refine AnyT.take (i := 3) (cs := [33]) rfl (by kernel_rfl) (by kernel_rfl) (by kernel_rfl) (by kernel_rfl) rfl (by kernel_rfl) (fun _ _ _ h => h) hH (by kernel_rfl) (by intro w hSw; (try dsimp only at hSw); go_simp; (try with_reducible rfl)) ?_
    try simp only [Act.put, List.setIfInBounds_toArray, List.set_cons_zero, List.set_cons_succ]
    refine AnyT.skip (i := 4) (cs := [33]) rfl (by kernel_rfl) (by kernel_rfl) (by kernel_rfl) (by kernel_rfl) rfl (by kernel_rfl) (fun _ _ _ h => h) hH (by kernel_rfl) ?_
    try simp only [Act.put, List.setIfInBounds_toArray, List.set_cons_zero, List.set_cons_succ]
    refine AnyT.skip (i := 5) (cs := [33]) rfl (by kernel_rfl) (by kernel_rfl) (by kernel_rfl) (by kernel_rfl) rfl (by kernel_rfl) (fun _ _ _ h => h) hH (by kernel_rfl) ?_
    try simp only [Act.put, List.setIfInBounds_toArray, List.set_cons_zero, List.set_cons_succ]
    refine AnyT.skip (i := 6) (cs := [33]) rfl (by kernel_rfl) (by kernel_rfl) (by kernel_rfl) (by kernel_rfl) rfl (by kernel_rfl) (fun _ _ _ h => h) hH (by kernel_rfl) ?_
    try simp only [Act.put, List.setIfInBounds_toArray, List.set_cons_zero, List.set_cons_succ]
    refine AnyT.skip (i := 7) (cs := [33]) rfl (by kernel_rfl) (by kernel_rfl) (by kernel_rfl) (by kernel_rfl) rfl (by kernel_rfl) (fun _ _ _ h => h) hH (by kernel_rfl) ?_
    try simp only [Act.put, List.setIfInBounds_toArray, List.set_cons_zero, List.set_cons_succ]
    refine AnyT.take (i := 8) (cs := [33]) rfl (by kernel_rfl) (by kernel_rfl) (by kernel_rfl) (by kernel_rfl) rfl (by kernel_rfl) (fun _ _ _ h => h) hH (by kernel_rfl) (by intro w hSw; (try dsimp only at hSw); go_simp; (try with_reducible rfl)) ?_
    try simp only [Act.put, List.setIfInBounds_toArray, List.set_cons_zero, List.set_cons_succ]
    refine AnyT.take (i := 9) (cs := [33]) rfl (by kernel_rfl) (by kernel_rfl) (by kernel_rfl) (by kernel_rfl) rfl (by kernel_rfl) (fun _ _ _ h => h) hH (by kernel_rfl) (by intro w hSw; (try dsimp only at hSw); go_simp; (try with_reducible rfl)) ?_
    try simp only [Act.put, List.setIfInBounds_toArray, List.set_cons_zero, List.set_cons_succ]
    refine AnyT.skip (i := 10) (cs := [33]) rfl (by kernel_rfl) (by kernel_rfl) (by kernel_rfl) (by kernel_rfl) rfl (by kernel_rfl) (fun _ _ _ h => h) hH (by kernel_rfl) ?_
    try simp only [Act.put, List.setIfInBounds_toArray, List.set_cons_zero, List.set_cons_succ]
    refine AnyT.skip (i := 11) (cs := [33]) rfl (by kernel_rfl) (by kernel_rfl) (by kernel_rfl) (by kernel_rfl) rfl (by kernel_rfl) (fun _ _ _ h => h) hH (by kernel_rfl) ?_
    try simp only [Act.put, List.setIfInBounds_toArray, List.set_cons_zero, List.set_cons_succ]
    refine AnyT.skip (i := 12) (cs := [33]) rfl (by kernel_rfl) (by kernel_rfl) (by kernel_rfl) (by kernel_rfl) rfl (by kernel_rfl) (fun _ _ _ h => h) hH (by kernel_rfl) ?_
    try simp only [Act.put, List.setIfInBounds_toArray, List.set_cons_zero, List.set_cons_succ]
    refine AnyT.skip (i := 13) (cs := [33]) rfl (by kernel_rfl) (by kernel_rfl) (by kernel_rfl) (by kernel_rfl) rfl (by kernel_rfl) (fun _ _ _ h => h) hH (by kernel_rfl) ?_
    try simp only [Act.put, List.setIfInBounds_toArray, List.set_cons_zero, List.set_cons_succ]
    refine AnyT.skip (i := 14) (cs := [33]) rfl (by kernel_rfl) (by kernel_rfl) (by kernel_rfl) (by kernel_rfl) rfl (by kernel_rfl) (fun _ _ _ h => h) hH (by kernel_rfl) ?_
    try simp only [Act.put, List.setIfInBounds_toArray, List.set_cons_zero, List.set_cons_succ]
    refine AnyT.skip (i := 15) (cs := [33]) rfl (by kernel_rfl) (by kernel_rfl) (by kernel_rfl) (by kernel_rfl) rfl (by kernel_rfl) (fun _ _ _ h => h) hH (by kernel_rfl) ?_
    try simp only [Act.put, List.setIfInBounds_toArray, List.set_cons_zero, List.set_cons_succ]
    refine AnyT.skip (i := 16) (cs := [33]) rfl (by kernel_rfl) (by kernel_rfl) (by kernel_rfl) (by kernel_rfl) rfl (by kernel_rfl) (fun _ _ _ h => h) hH (by kernel_rfl) ?_
    try simp only [Act.put, List.setIfInBounds_toArray, List.set_cons_zero, List.set_cons_succ]
    refine AnyT.skip (i := 17) (cs := [33]) rfl (by kernel_rfl) (by kernel_rfl) (by kernel_rfl) (by kernel_rfl) rfl (by kernel_rfl) (fun _ _ _ h => h) hH (by kernel_rfl) ?_
    try simp only [Act.put, List.setIfInBounds_toArray, List.set_cons_zero, List.set_cons_succ]
    refine AnyT.skip (i := 18) (cs := [33]) rfl (by kernel_rfl) (by kernel_rfl) (by kernel_rfl) (by kernel_rfl) rfl (by kernel_rfl) (fun _ _ _ h => h) hH (by kernel_rfl) ?_
    try simp only [Act.put, List.setIfInBounds_toArray, List.set_cons_zero, List.set_cons_succ]
    refine AnyT.skip (i := 19) (cs := [33]) rfl (by kernel_rfl) (by kernel_rfl) (by kernel_rfl) (by kernel_rfl) rfl (by kernel_rfl) (fun _ _ _ h => h) hH (by kernel_rfl) ?_
    try simp only [Act.put, List.setIfInBounds_toArray, List.set_cons_zero, List.set_cons_succ]
    refine AnyT.take (i := 20) (cs := [33]) rfl (by kernel_rfl) (by kernel_rfl) (by kernel_rfl) (by kernel_rfl) rfl (by kernel_rfl) (fun _ _ _ h => h) hH (by kernel_rfl) (by intro w hSw; (try dsimp only at hSw); go_simp; (try with_reducible rfl)) ?_
    try simp only [Act.put, List.setIfInBounds_toArray, List.set_cons_zero, List.set_cons_succ]
    refine AnyT.take (i := 21) (cs := [33]) rfl (by kernel_rfl) (by kernel_rfl) (by kernel_rfl) (by kernel_rfl) rfl (by kernel_rfl) (fun _ _ _ h => h) hH (by kernel_rfl) (by intro w hSw; (try dsimp only at hSw); go_simp; (try with_reducible rfl)) ?_
    try simp only [Act.put, List.setIfInBounds_toArray, List.set_cons_zero, List.set_cons_succ]
    refine AnyT.skip (i := 22) (cs := [33]) rfl (by kernel_rfl) (by kernel_rfl) (by kernel_rfl) (by kernel_rfl) rfl (by kernel_rfl) (fun _ _ _ h => h) hH (by kernel_rfl) ?_
    try simp only [Act.put, List.setIfInBounds_toArray, List.set_cons_zero, List.set_cons_succ]
    refine AnyT.skip (i := 23) (cs := [33]) rfl (by kernel_rfl) (by kernel_rfl) (by kernel_rfl) (by kernel_rfl) rfl (by kernel_rfl) (fun _ _ _ h => h) hH (by kernel_rfl) ?_
    try simp only [Act.put, List.setIfInBounds_toArray, List.set_cons_zero, List.set_cons_succ]
    refine AnyT.skip (i := 24) (cs := [33]) rfl (by kernel_rfl) (by kernel_rfl) (by kernel_rfl) (by kernel_rfl) rfl (by kernel_rfl) (fun _ _ _ h => h) hH (by kernel_rfl) ?_
    try simp only [Act.put, List.setIfInBounds_toArray, List.set_cons_zero, List.set_cons_succ]
    refine AnyT.skip (i := 25) (cs := [33]) rfl (by kernel_rfl) (by kernel_rfl) (by kernel_rfl) (by kernel_rfl) rfl (by kernel_rfl) (fun _ _ _ h => h) hH (by kernel_rfl) ?_
    try simp only [Act.put, List.setIfInBounds_toArray, List.set_cons_zero, List.set_cons_succ]
    refine AnyT.skip (i := 26) (cs := [33]) rfl (by kernel_rfl) (by kernel_rfl) (by kernel_rfl) (by kernel_rfl) rfl (by kernel_rfl) (fun _ _ _ h => h) hH (by kernel_rfl) ?_
    try simp only [Act.put, List.setIfInBounds_toArray, List.set_cons_zero, List.set_cons_succ]
    refine AnyT.skip (i := 27) (cs := [33]) rfl (by kernel_rfl) (by kernel_rfl) (by kernel_rfl) (by kernel_rfl) rfl (by kernel_rfl) (fun _ _ _ h => h) hH (by kernel_rfl) ?_
    try simp only [Act.put, List.setIfInBounds_toArray, List.set_cons_zero, List.set_cons_succ]
    refine AnyT.skip (i := 28) (cs := [33]) rfl (by kernel_rfl) (by kernel_rfl) (by kernel_rfl) (by kernel_rfl) rfl (by kernel_rfl) (fun _ _ _ h => h) hH (by kernel_rfl) ?_
    try simp only [Act.put, List.setIfInBounds_toArray, List.set_cons_zero, List.set_cons_succ]
    refine AnyT.skip (i := 29) (cs := [33]) rfl (by kernel_rfl) (by kernel_rfl) (by kernel_rfl) (by kernel_rfl) rfl (by kernel_rfl) (fun _ _ _ h => h) hH (by kernel_rfl) ?_
    try simp only [Act.put, List.setIfInBounds_toArray, List.set_cons_zero, List.set_cons_succ]
    refine AnyT.skip (i := 30) (cs := [33]) rfl (by kernel_rfl) (by kernel_rfl) (by kernel_rfl) (by kernel_rfl) rfl (by kernel_rfl) (fun _ _ _ h => h) hH (by kernel_rfl) ?_
    try simp only [Act.put, List.setIfInBounds_toArray, List.set_cons_zero, List.set_cons_succ]
    refine AnyT.skip (i := 31) (cs := [33]) rfl (by kernel_rfl) (by kernel_rfl) (by kernel_rfl) (by kernel_rfl) rfl (by kernel_rfl) (fun _ _ _ h => h) hH (by kernel_rfl) ?_
    try simp only [Act.put, List.setIfInBounds_toArray, List.set_cons_zero, List.set_cons_succ]
    refine AnyT.take (i := 32) (cs := [33]) rfl (by kernel_rfl) (by kernel_rfl) (by kernel_rfl) (by kernel_rfl) rfl (by kernel_rfl) (fun _ _ _ h => h) hH (by kernel_rfl) (by intro w hSw; (try dsimp only at hSw); go_simp; (try with_reducible rfl)) ?_
    try simp only [Act.put, List.setIfInBounds_toArray, List.set_cons_zero, List.set_cons_succ]
    refine AnyT.last (by kernel_rfl) rfl (by kernel_rfl) (fun K hK => ?_)
    go_simp
    refine hK.out _ _ ?_
    clear hK
    try simp only [Act.put, List.setIfInBounds_toArray, List.set_cons_zero, List.set_cons_succ]
    go_wp2_with (fail)
    go_ret
    exact ⟨ret_bool (by rw [HR.out]), hG0.trans hgr1⟩
  | true =>
    by_cases hd2n : a.Debugs.length = 2
    case neg =>
      have HR := Lib.hid (show agentOk a = false from by unfold agentOk; rw [decide_eq_false hd2n]; simp)
      have hd2 : ((a.Debugs.length : Int) == 2) = false := by simp; omega
      have hd3 : ((a.Debugs.length : Int) != 2) = true := by simp; omega
      clear hd2n hq
      refine region_T (fun w' => w'.cell? ⟨g, 0, none⟩ = some (.slice A0 a.Space.Images.length c0) ∧ w'.cell? ⟨g, 1, none⟩ = some (.slice A1 a.Space.Bases.length c1) ∧ w'.cell? ⟨g, 2, none⟩ = some (.slice A2 a.Space.Entries.length c2) ∧ w'.cell? ⟨g, 3, none⟩ = some (.slice A3 a.Debugs.length c3)) 33 (by kernel_rfl) (And.intro (drew_keeps y0) (And.intro (drew_keeps y1) (And.intro (drew_keeps y2) (drew_keeps y3)))) (fun hH => ?_)
      have hdr : Gro Y Y.drew := (Gro.refl _).drew
      clear y0 y1 y2 y3
      generalize Y.drew = wx at hdr hH ⊢
      obtain ⟨y0, y1, y2, y3⟩ := id hH
      refine AnyT.take (i := 0) (cs := [33]) rfl (by kernel_rfl) (by kernel_rfl) (by kernel_rfl) (by kernel_rfl) rfl (by kernel_rfl) (fun _ _ _ h => h) hH (by kernel_rfl) (by intro w hSw; (try dsimp only at hSw); go_simp; (try with_reducible rfl)) ?_
      try simp only [Act.put, List.setIfInBounds_toArray, List.set_cons_zero, List.set_cons_succ]
      refine AnyT.take (i := 1) (cs := [33]) rfl (by kernel_rfl) (by kernel_rfl) (by kernel_rfl) (by kernel_rfl) rfl (by kernel_rfl) (fun _ _ _ h => h) hH (by kernel_rfl) (by intro w hSw; (try dsimp only at hSw); go_simp; (try with_reducible rfl)) ?_
      try simp only [Act.put, List.setIfInBounds_toArray, List.set_cons_zero, List.set_cons_succ]
      refine AnyT.one (i := 2) (by kernel_rfl) rfl (fun K hK => ?_)
      go_simp
      go_at_call 80
      (with_reducible refine (spaceOk_i (s := a.Space) (Ty.up _ z0 hdr) (Ty.up _ z1 hdr) (Ty.up _ z2 hdr) hs).mono ?_); rw [HQ.out]
      rintro e v1 ⟨rfl, hg1⟩
      have hgr1 := hdr.trans hg1
      have y0 := grow_cell hg1 y0
      have y1 := grow_cell hg1 y1
      have y2 := grow_cell hg1 y2
      have y3 := grow_cell hg1 y3
      refine hK.out _ _ (And.intro y0 (And.intro y1 (And.intro y2 y3))) (fun hI => ?_)
      clear hK hH
      have hH := hI
      try simp only [Act.put, List.setIfInBounds_toArray, List.set_cons_zero, List.set_cons_succ]
      refine AnyT.take (i := 3) (cs := [33]) rfl (by kernel_rfl) (by kernel_rfl) (by kernel_rfl) (by kernel_rfl) rfl (by kernel_rfl) (fun _ _ _ h => h) hH (by kernel_rfl) (by intro w hSw; (try dsimp only at hSw); go_simp; (try with_reducible rfl)) ?_
      try simp only [Act.put, List.setIfInBounds_toArray, List.set_cons_zero, List.set_cons_succ]
      refine AnyT.take (i := 4) (cs := [33]) rfl (by kernel_rfl) (by kernel_rfl) (by kernel_rfl) (by kernel_rfl) rfl (by kernel_rfl) (fun _ _ _ h => h) hH (by kernel_rfl) (by intro w hSw; (try dsimp only at hSw); go_simp; (try with_reducible rfl)) ?_
      try simp only [Act.put, List.setIfInBounds_toArray, List.set_cons_zero, List.set_cons_succ]
      refine AnyT.take (i := 5) (cs := [33]) rfl (by kernel_rfl) (by kernel_rfl) (by kernel_rfl) (by kernel_rfl) rfl (by kernel_rfl) (fun _ _ _ h => h) hH (by kernel_rfl) (by intro w hSw; (try dsimp only at hSw); go_simp; (try with_reducible rfl)) ?_
      try simp only [Act.put, List.setIfInBounds_toArray, List.set_cons_zero, List.set_cons_succ]
      refine AnyT.take (i := 6) (cs := [33]) rfl (by kernel_rfl) (by kernel_rfl) (by kernel_rfl) (by kernel_rfl) rfl (by kernel_rfl) (fun _ _ _ h => h) hH (by kernel_rfl) (by intro w hSw; (try dsimp only at hSw); go_simp; (try with_reducible rfl)) ?_
      try simp only [Act.put, List.setIfInBounds_toArray, List.set_cons_zero, List.set_cons_succ]
      refine AnyT.take (i := 7) (cs := [33]) rfl (by kernel_rfl) (by kernel_rfl) (by kernel_rfl) (by kernel_rfl) rfl (by kernel_rfl) (fun _ _ _ h => h) hH (by kernel_rfl) (by intro w hSw; (try dsimp only at hSw); go_simp; (try with_reducible rfl)) ?_
      try simp only [Act.put, List.setIfInBounds_toArray, List.set_cons_zero, List.set_cons_succ]
      refine AnyT.take (i := 8) (cs := [33]) rfl (by kernel_rfl) (by kernel_rfl) (by kernel_rfl) (by kernel_rfl) rfl (by kernel_rfl) (fun _ _ _ h => h) hH (by kernel_rfl) (by intro w hSw; (try dsimp only at hSw); go_simp; (try with_reducible rfl)) ?_
      try simp only [Act.put, List.setIfInBounds_toArray, List.set_cons_zero, List.set_cons_succ]
      refine AnyT.take (i := 9) (cs := [33]) rfl (by kernel_rfl) (by kernel_rfl) (by kernel_rfl) (by kernel_rfl) rfl (by kernel_rfl) (fun _ _ _ h => h) hH (by kernel_rfl) (by intro w hSw; (try dsimp only at hSw); go_simp; (try with_reducible rfl)) ?_
      try simp only [Act.put, List.setIfInBounds_toArray, List.set_cons_zero, List.set_cons_succ]
      refine AnyT.skip (i := 10) (cs := [33]) rfl (by kernel_rfl) (by kernel_rfl) (by kernel_rfl) (by kernel_rfl) rfl (by kernel_rfl) (fun _ _ _ h => h) hH (by kernel_rfl) ?_
      try simp only [Act.put, List.setIfInBounds_toArray, List.set_cons_zero, List.set_cons_succ]
      refine AnyT.skip (i := 11) (cs := [33]) rfl (by kernel_rfl) (by kernel_rfl) (by kernel_rfl) (by kernel_rfl) rfl (by kernel_rfl) (fun _ _ _ h => h) hH (by kernel_rfl) ?_
      try simp only [Act.put, List.setIfInBounds_toArray, List.set_cons_zero, List.set_cons_succ]
      refine AnyT.skip (i := 12) (cs := [33]) rfl (by kernel_rfl) (by kernel_rfl) (by kernel_rfl) (by kernel_rfl) rfl (by kernel_rfl) (fun _ _ _ h => h) hH (by kernel_rfl) ?_
      try simp only [Act.put, List.setIfInBounds_toArray, List.set_cons_zero, List.set_cons_succ]
      refine AnyT.skip (i := 13) (cs := [33]) rfl (by kernel_rfl) (by kernel_rfl) (by kernel_rfl) (by kernel_rfl) rfl (by kernel_rfl) (fun _ _ _ h => h) hH (by kernel_rfl) ?_
      try simp only [Act.put, List.setIfInBounds_toArray, List.set_cons_zero, List.set_cons_succ]
      refine AnyT.skip (i := 14) (cs := [33]) rfl (by kernel_rfl) (by kernel_rfl) (by kernel_rfl) (by kernel_rfl) rfl (by kernel_rfl) (fun _ _ _ h => h) hH (by kernel_rfl) ?_
      try simp only [Act.put, List.setIfInBounds_toArray, List.set_cons_zero, List.set_cons_succ]
      refine AnyT.skip (i := 15) (cs := [33]) rfl (by kernel_rfl) (by kernel_rfl) (by kernel_rfl) (by kernel_rfl) rfl (by kernel_rfl) (fun _ _ _ h => h) hH (by kernel_rfl) ?_
      try simp only [Act.put, List.setIfInBounds_toArray, List.set_cons_zero, List.set_cons_succ]
      refine AnyT.skip (i := 16) (cs := [33]) rfl (by kernel_rfl) (by kernel_rfl) (by kernel_rfl) (by kernel_rfl) rfl (by kernel_rfl) (fun _ _ _ h => h) hH (by kernel_rfl) ?_
      try simp only [Act.put, List.setIfInBounds_toArray, List.set_cons_zero, List.set_cons_succ]
      refine AnyT.skip (i := 17) (cs := [33]) rfl (by kernel_rfl) (by kernel_rfl) (by kernel_rfl) (by kernel_rfl) rfl (by kernel_rfl) (fun _ _ _ h => h) hH (by kernel_rfl) ?_
      try simp only [Act.put, List.setIfInBounds_toArray, List.set_cons_zero, List.set_cons_succ]
      refine AnyT.skip (i := 18) (cs := [33]) rfl (by kernel_rfl) (by kernel_rfl) (by kernel_rfl) (by kernel_rfl) rfl (by kernel_rfl) (fun _ _ _ h => h) hH (by kernel_rfl) ?_
      try simp only [Act.put, List.setIfInBounds_toArray, List.set_cons_zero, List.set_cons_succ]
      refine AnyT.skip (i := 19) (cs := [33]) rfl (by kernel_rfl) (by kernel_rfl) (by kernel_rfl) (by kernel_rfl) rfl (by kernel_rfl) (fun _ _ _ h => h) hH (by kernel_rfl) ?_
      try simp only [Act.put, List.setIfInBounds_toArray, List.set_cons_zero, List.set_cons_succ]
      refine AnyT.take (i := 20) (cs := [33]) rfl (by kernel_rfl) (by kernel_rfl) (by kernel_rfl) (by kernel_rfl) rfl (by kernel_rfl) (fun _ _ _ h => h) hH (by kernel_rfl) (by intro w hSw; (try dsimp only at hSw); go_simp; (try with_reducible rfl)) ?_
      try simp only [Act.put, List.setIfInBounds_toArray, List.set_cons_zero, List.set_cons_succ]
      refine AnyT.take (i := 21) (cs := [33]) rfl (by kernel_rfl) (by kernel_rfl) (by kernel_rfl) (by kernel_rfl) rfl (by kernel_rfl) (fun _ _ _ h => h) hH (by kernel_rfl) (by intro w hSw; (try dsimp only at hSw); go_simp; (try with_reducible rfl)) ?_
      try simp only [Act.put, List.setIfInBounds_toArray, List.set_cons_zero, List.set_cons_succ]
      refine AnyT.skip (i := 22) (cs := [33]) rfl (by kernel_rfl) (by kernel_rfl) (by kernel_rfl) (by kernel_rfl) rfl (by kernel_rfl) (fun _ _ _ h => h) hH (by kernel_rfl) ?_
      try simp only [Act.put, List.setIfInBounds_toArray, List.set_cons_zero, List.set_cons_succ]
      refine AnyT.skip (i := 23) (cs := [33]) rfl (by kernel_rfl) (by kernel_rfl) (by kernel_rfl) (by kernel_rfl) rfl (by kernel_rfl) (fun _ _ _ h => h) hH (by kernel_rfl) ?_
      try simp only [Act.put, List.setIfInBounds_toArray, List.set_cons_zero, List.set_cons_succ]
      refine AnyT.skip (i := 24) (cs := [33]) rfl (by kernel_rfl) (by kernel_rfl) (by kernel_rfl) (by kernel_rfl) rfl (by kernel_rfl) (fun _ _ _ h => h) hH (by kernel_rfl) ?_
      try simp only [Act.put, List.setIfInBounds_toArray, List.set_cons_zero, List.set_cons_succ]
      refine AnyT.skip (i := 25) (cs := [33]) rfl (by kernel_rfl) (by kernel_rfl) (by kernel_rfl) (by kernel_rfl) rfl (by kernel_rfl) (fun _ _ _ h => h) hH (by kernel_rfl) ?_
      try simp only [Act.put, List.setIfInBounds_toArray, List.set_cons_zero, List.set_cons_succ]
      refine AnyT.skip (i := 26) (cs := [33]) rfl (by kernel_rfl) (by kernel_rfl) (by kernel_rfl) (by kernel_rfl) rfl (by kernel_rfl) (fun _ _ _ h => h) hH (by kernel_rfl) ?_
      try simp only [Act.put, List.setIfInBounds_toArray, List.set_cons_zero, List.set_cons_succ]
      refine AnyT.skip (i := 27) (cs := [33]) rfl (by kernel_rfl) (by kernel_rfl) (by kernel_rfl) (by kernel_rfl) rfl (by kernel_rfl) (fun _ _ _ h => h) hH (by kernel_rfl) ?_
      try simp only [Act.put, List.setIfInBounds_toArray, List.set_cons_zero, List.set_cons_succ]
      refine AnyT.skip (i := 28) (cs := [33]) rfl (by kernel_rfl) (by kernel_rfl) (by kernel_rfl) (by kernel_rfl) rfl (by kernel_rfl) (fun _ _ _ h => h) hH (by kernel_rfl) ?_
      try simp only [Act.put, List.setIfInBounds_toArray, List.set_cons_zero, List.set_cons_succ]
      refine AnyT.skip (i := 29) (cs := [33]) rfl (by kernel_rfl) (by kernel_rfl) (by kernel_rfl) (by kernel_rfl) rfl (by kernel_rfl) (fun _ _ _ h => h) hH (by kernel_rfl) ?_
      try simp only [Act.put, List.setIfInBounds_toArray, List.set_cons_zero, List.set_cons_succ]
      refine AnyT.skip (i := 30) (cs := [33]) rfl (by kernel_rfl) (by kernel_rfl) (by kernel_rfl) (by kernel_rfl) rfl (by kernel_rfl) (fun _ _ _ h => h) hH (by kernel_rfl) ?_
      try simp only [Act.put, List.setIfInBounds_toArray, List.set_cons_zero, List.set_cons_succ]
      refine AnyT.skip (i := 31) (cs := [33]) rfl (by kernel_rfl) (by kernel_rfl) (by kernel_rfl) (by kernel_rfl) rfl (by kernel_rfl) (fun _ _ _ h => h) hH (by kernel_rfl) ?_
      try simp only [Act.put, List.setIfInBounds_toArray, List.set_cons_zero, List.set_cons_succ]
      refine AnyT.take (i := 32) (cs := [33]) rfl (by kernel_rfl) (by kernel_rfl) (by kernel_rfl) (by kernel_rfl) rfl (by kernel_rfl) (fun _ _ _ h => h) hH (by kernel_rfl) (by intro w hSw; (try dsimp only at hSw); go_simp; (try with_reducible rfl)) ?_
      try simp only [Act.put, List.setIfInBounds_toArray, List.set_cons_zero, List.set_cons_succ]
      refine AnyT.last (by kernel_rfl) rfl (by kernel_rfl) (fun K hK => ?_)
      go_simp
      refine hK.out _ _ ?_
      clear hK
      try simp only [Act.put, List.setIfInBounds_toArray, List.set_cons_zero, List.set_cons_succ]
      go_wp2_with (fail)
      go_ret
      exact ⟨ret_bool (by rw [HR.out]), hG0.trans hgr1⟩
    case pos =>
      obtain ⟨him2, hst⟩ : a.Space.Images.length = 2 ∧ ∀ i ∈ a.Space.Images, i.Code.size ≤ 1000000 := by
        have h1 := hq
        simp only [spaceOk, Bool.and_eq_true, decide_eq_true_eq, List.all_eq_true] at h1
        refine ⟨by omega, fun i hi => ?_⟩
        have h2 := h1.1.1.1.2 i hi
        simp only [imageOk, Bool.and_eq_true, decide_eq_true_eq] at h2
        exact h2.1
      have hd2 : ((a.Debugs.length : Int) == 2) = true := by simp; omega
      have hd3 : ((a.Debugs.length : Int) != 2) = false := by simp; omega
      have hx0 : (0 : Int) < (a.Space.Images.length : Int) := by omega
      have hx1 : (1 : Int) < (a.Space.Images.length : Int) := by omega
      have hx2 : (0 : Int) < (a.Debugs.length : Int) := by omega
      have hx3 : (1 : Int) < (a.Debugs.length : Int) := by omega
      have hx4 : 0 < a.Space.Images.length := by omega
      have hx5 : 1 < a.Space.Images.length := by omega
      have hx6 : 0 < a.Debugs.length := by omega
      have hx7 : 1 < a.Debugs.length := by omega
      obtain ⟨gi, oi, i0, C0, k0, hA0, _, hi0, m00, m01, _, hS0⟩ := atImage z0 (k := 0) (by omega)
      obtain ⟨gi', oi', i1, C1, k1, hA1, _, hi1, m10, m11, _, hS1⟩ := atImage z0 (k := 1) (by omega)
      obtain ⟨gd, od, d0, D00, e00, D01, e01, D02, e02, D03, e03, hB0, _, hd0, n00, n01, n02, n03, n04, _, hT0, _, _, _⟩ := atDebug z3 (k := 0) (by omega)
      obtain ⟨gd', od', d1, D10, e10, D11, e11, D12, e12, D13, e13, hB1, _, hd1, n10, n11, n12, n13, n14, _, hT1, _, _, _⟩ := atDebug z3 (k := 1) (by omega)
      rw [hA0] at hA1
      injection hA1 with hA1
      injection hA1 with q1 q2
      subst q1 q2
      rw [hB0] at hB1
      injection hB1 with hB1
      injection hB1 with q1 q2
      subst q1 q2
      simp only [Nat.zero_mul, Nat.add_zero, Nat.one_mul, Nat.add_assoc, Nat.reduceAdd] at m00 m01 m10 m11 n00 n01 n02 n03 n04 n10 n11 n12 n13 n14
      have hst0 : i0.Code.size ≤ 1099511627776 := by have := hst i0 (List.mem_of_getElem? hi0); omega
      have hst1 : i1.Code.size ≤ 1099511627776 := by have := hst i1 (List.mem_of_getElem? hi1); omega
      have HAG := Lib.hid (agentOk_two hq hd2n hi0 hi1 hd0 hd1)
      obtain ⟨f0, hf0⟩ : ∃ b, fitsD i0 d0 = b := ⟨_, rfl⟩
      have HF0 := Lib.hid hf0
      obtain ⟨f1, hf1⟩ : ∃ b, fitsD i1 d1 = b := ⟨_, rfl⟩
      have HF1 := Lib.hid hf1
      rw [hA0] at y0 z0
      rw [hB0] at y3
      cases f0 with
      | false =>
        have HR := Lib.hid (show agentOk a = false from by rw [HAG.out, hf0]; rfl)
        clear hq hi0 hi1 hd0 hd1 hf0 hf1 him2 hst hd2n hA0 hB0
        refine region_T (fun w' => w'.cell? ⟨g, 0, none⟩ = some (.slice (some ⟨gi, oi, none⟩) a.Space.Images.length c0) ∧ w'.cell? ⟨g, 1, none⟩ = some (.slice A1 a.Space.Bases.length c1) ∧ w'.cell? ⟨g, 2, none⟩ = some (.slice A2 a.Space.Entries.length c2) ∧ w'.cell? ⟨g, 3, none⟩ = some (.slice (some ⟨gd, od, none⟩) a.Debugs.length c3) ∧ w'.cell? ⟨gi, oi, none⟩ = some (.string i0.Code) ∧ w'.cell? ⟨gi, oi + 1, none⟩ = some (.slice C0 i0.Symbols.length k0) ∧ w'.cell? ⟨gd, od, none⟩ = some (.int .i64 d0.Id) ∧ w'.cell? ⟨gd, od + 1, none⟩ = some (.slice D00 d0.Symbols.length e00) ∧ w'.cell? ⟨gd, od + 2, none⟩ = some (.slice D01 d0.Rules.length e01) ∧ w'.cell? ⟨gd, od + 3, none⟩ = some (.slice D02 d0.Rows.length e02) ∧ w'.cell? ⟨gd, od + 4, none⟩ = some (.slice D03 d0.Inlines.length e03) ∧ w'.cell? ⟨gi, oi + 2, none⟩ = some (.string i1.Code) ∧ w'.cell? ⟨gi, oi + 3, none⟩ = some (.slice C1 i1.Symbols.length k1) ∧ w'.cell? ⟨gd, od + 5, none⟩ = some (.int .i64 d1.Id) ∧ w'.cell? ⟨gd, od + 6, none⟩ = some (.slice D10 d1.Symbols.length e10) ∧ w'.cell? ⟨gd, od + 7, none⟩ = some (.slice D11 d1.Rules.length e11) ∧ w'.cell? ⟨gd, od + 8, none⟩ = some (.slice D12 d1.Rows.length e12) ∧ w'.cell? ⟨gd, od + 9, none⟩ = some (.slice D13 d1.Inlines.length e13)) 33 (by kernel_rfl) (And.intro (drew_keeps y0) (And.intro (drew_keeps y1) (And.intro (drew_keeps y2) (And.intro (drew_keeps y3) (And.intro (drew_keeps m00) (And.intro (drew_keeps m01) (And.intro (drew_keeps n00) (And.intro (drew_keeps n01) (And.intro (drew_keeps n02) (And.intro (drew_keeps n03) (And.intro (drew_keeps n04) (And.intro (drew_keeps m10) (And.intro (drew_keeps m11) (And.intro (drew_keeps n10) (And.intro (drew_keeps n11) (And.intro (drew_keeps n12) (And.intro (drew_keeps n13) (drew_keeps n14)))))))))))))))))) (fun hH => ?_)
        have hdr : Gro Y Y.drew := (Gro.refl _).drew
        clear y0 y1 y2 y3 m00 m01 n00 n01 n02 n03 n04 m10 m11 n10 n11 n12 n13 n14
        generalize Y.drew = wx at hdr hH ⊢
        obtain ⟨y0, y1, y2, y3, m00, m01, n00, n01, n02, n03, n04, m10, m11, n10, n11, n12, n13, n14⟩ := id hH
        refine AnyT.take (i := 0) (cs := [33]) rfl (by kernel_rfl) (by kernel_rfl) (by kernel_rfl) (by kernel_rfl) rfl (by kernel_rfl) (fun _ _ _ h => h) hH (by kernel_rfl) (by intro w hSw; (try dsimp only at hSw); go_simp; (try with_reducible rfl)) ?_
        try simp only [Act.put, List.setIfInBounds_toArray, List.set_cons_zero, List.set_cons_succ]
        refine AnyT.take (i := 1) (cs := [33]) rfl (by kernel_rfl) (by kernel_rfl) (by kernel_rfl) (by kernel_rfl) rfl (by kernel_rfl) (fun _ _ _ h => h) hH (by kernel_rfl) (by intro w hSw; (try dsimp only at hSw); go_simp; (try with_reducible rfl)) ?_
        try simp only [Act.put, List.setIfInBounds_toArray, List.set_cons_zero, List.set_cons_succ]
        refine AnyT.one (i := 2) (by kernel_rfl) rfl (fun K hK => ?_)
        go_simp
        go_at_call 80
        (with_reducible refine (spaceOk_i (s := a.Space) (Ty.up _ z0 hdr) (Ty.up _ z1 hdr) (Ty.up _ z2 hdr) hs).mono ?_); rw [HQ.out]
        rintro e v1 ⟨rfl, hg1⟩
        have hgr1 := hdr.trans hg1
        have y0 := grow_cell hg1 y0
        have y1 := grow_cell hg1 y1
        have y2 := grow_cell hg1 y2
        have y3 := grow_cell hg1 y3
        have m00 := grow_cell hg1 m00
        have m01 := grow_cell hg1 m01
        have n00 := grow_cell hg1 n00
        have n01 := grow_cell hg1 n01
        have n02 := grow_cell hg1 n02
        have n03 := grow_cell hg1 n03
        have n04 := grow_cell hg1 n04
        have m10 := grow_cell hg1 m10
        have m11 := grow_cell hg1 m11
        have n10 := grow_cell hg1 n10
        have n11 := grow_cell hg1 n11
        have n12 := grow_cell hg1 n12
        have n13 := grow_cell hg1 n13
        have n14 := grow_cell hg1 n14
        refine hK.out _ _ (And.intro y0 (And.intro y1 (And.intro y2 (And.intro y3 (And.intro m00 (And.intro m01 (And.intro n00 (And.intro n01 (And.intro n02 (And.intro n03 (And.intro n04 (And.intro m10 (And.intro m11 (And.intro n10 (And.intro n11 (And.intro n12 (And.intro n13 n14))))))))))))))))) (fun hI => ?_)
        clear hK hH
        have hH := hI
        try simp only [Act.put, List.setIfInBounds_toArray, List.set_cons_zero, List.set_cons_succ]
        refine AnyT.take (i := 3) (cs := [33]) rfl (by kernel_rfl) (by kernel_rfl) (by kernel_rfl) (by kernel_rfl) rfl (by kernel_rfl) (fun _ _ _ h => h) hH (by kernel_rfl) (by intro w hSw; (try dsimp only at hSw); go_simp; (try with_reducible rfl)) ?_
        try simp only [Act.put, List.setIfInBounds_toArray, List.set_cons_zero, List.set_cons_succ]
        refine AnyT.take (i := 4) (cs := [33]) rfl (by kernel_rfl) (by kernel_rfl) (by kernel_rfl) (by kernel_rfl) rfl (by kernel_rfl) (fun _ _ _ h => h) hH (by kernel_rfl) (by intro w hSw; (try dsimp only at hSw); go_simp; (try with_reducible rfl)) ?_
        try simp only [Act.put, List.setIfInBounds_toArray, List.set_cons_zero, List.set_cons_succ]
        refine AnyT.take (i := 5) (cs := [33]) rfl (by kernel_rfl) (by kernel_rfl) (by kernel_rfl) (by kernel_rfl) rfl (by kernel_rfl) (fun _ _ _ h => h) hH (by kernel_rfl) (by intro w hSw; (try dsimp only at hSw); go_simp; (try with_reducible rfl)) ?_
        try simp only [Act.put, List.setIfInBounds_toArray, List.set_cons_zero, List.set_cons_succ]
        refine AnyT.take (i := 6) (cs := [33]) rfl (by kernel_rfl) (by kernel_rfl) (by kernel_rfl) (by kernel_rfl) rfl (by kernel_rfl) (fun _ _ _ h => h) hH (by kernel_rfl) (by intro w hSw; (try dsimp only at hSw); go_simp; (try with_reducible rfl)) ?_
        try simp only [Act.put, List.setIfInBounds_toArray, List.set_cons_zero, List.set_cons_succ]
        refine AnyT.take (i := 7) (cs := [33]) rfl (by kernel_rfl) (by kernel_rfl) (by kernel_rfl) (by kernel_rfl) rfl (by kernel_rfl) (fun _ _ _ h => h) hH (by kernel_rfl) (by intro w hSw; (try dsimp only at hSw); go_simp; (try with_reducible rfl)) ?_
        try simp only [Act.put, List.setIfInBounds_toArray, List.set_cons_zero, List.set_cons_succ]
        refine AnyT.take (i := 8) (cs := [33]) rfl (by kernel_rfl) (by kernel_rfl) (by kernel_rfl) (by kernel_rfl) rfl (by kernel_rfl) (fun _ _ _ h => h) hH (by kernel_rfl) (by intro w hSw; (try dsimp only at hSw); go_simp; (try with_reducible rfl)) ?_
        try simp only [Act.put, List.setIfInBounds_toArray, List.set_cons_zero, List.set_cons_succ]
        refine AnyT.take (i := 9) (cs := [33]) rfl (by kernel_rfl) (by kernel_rfl) (by kernel_rfl) (by kernel_rfl) rfl (by kernel_rfl) (fun _ _ _ h => h) hH (by kernel_rfl) (by intro w hSw; (try dsimp only at hSw); go_simp; (try with_reducible rfl)) ?_
        try simp only [Act.put, List.setIfInBounds_toArray, List.set_cons_zero, List.set_cons_succ]
        refine AnyT.take (i := 10) (cs := [33]) rfl (by kernel_rfl) (by kernel_rfl) (by kernel_rfl) (by kernel_rfl) rfl (by kernel_rfl) (fun _ _ _ h => h) hH (by kernel_rfl) (by intro w hSw; (try dsimp only at hSw); go_simp; (try with_reducible rfl)) ?_
        try simp only [Act.put, List.setIfInBounds_toArray, List.set_cons_zero, List.set_cons_succ]
        refine AnyT.take (i := 11) (cs := [33]) rfl (by kernel_rfl) (by kernel_rfl) (by kernel_rfl) (by kernel_rfl) rfl (by kernel_rfl) (fun _ _ _ h => h) hH (by kernel_rfl) (by intro w hSw; (try dsimp only at hSw); go_simp; (try with_reducible rfl)) ?_
        try simp only [Act.put, List.setIfInBounds_toArray, List.set_cons_zero, List.set_cons_succ]
        refine AnyT.take (i := 12) (cs := [33]) rfl (by kernel_rfl) (by kernel_rfl) (by kernel_rfl) (by kernel_rfl) rfl (by kernel_rfl) (fun _ _ _ h => h) hH (by kernel_rfl) (by intro w hSw; (try dsimp only at hSw); go_simp; (try with_reducible rfl)) ?_
        try simp only [Act.put, List.setIfInBounds_toArray, List.set_cons_zero, List.set_cons_succ]
        refine AnyT.take (i := 13) (cs := [33]) rfl (by kernel_rfl) (by kernel_rfl) (by kernel_rfl) (by kernel_rfl) rfl (by kernel_rfl) (fun _ _ _ h => h) hH (by kernel_rfl) (by intro w hSw; (try dsimp only at hSw); go_simp; (try with_reducible rfl)) ?_
        try simp only [Act.put, List.setIfInBounds_toArray, List.set_cons_zero, List.set_cons_succ]
        refine AnyT.take (i := 14) (cs := [33]) rfl (by kernel_rfl) (by kernel_rfl) (by kernel_rfl) (by kernel_rfl) rfl (by kernel_rfl) (fun _ _ _ h => h) hH (by kernel_rfl) (by intro w hSw; (try dsimp only at hSw); go_simp; (try with_reducible rfl)) ?_
        try simp only [Act.put, List.setIfInBounds_toArray, List.set_cons_zero, List.set_cons_succ]
        refine AnyT.take (i := 15) (cs := [33]) rfl (by kernel_rfl) (by kernel_rfl) (by kernel_rfl) (by kernel_rfl) rfl (by kernel_rfl) (fun _ _ _ h => h) hH (by kernel_rfl) (by intro w hSw; (try dsimp only at hSw); go_simp; (try with_reducible rfl)) ?_
        try simp only [Act.put, List.setIfInBounds_toArray, List.set_cons_zero, List.set_cons_succ]
        refine AnyT.take (i := 16) (cs := [33]) rfl (by kernel_rfl) (by kernel_rfl) (by kernel_rfl) (by kernel_rfl) rfl (by kernel_rfl) (fun _ _ _ h => h) hH (by kernel_rfl) (by intro w hSw; (try dsimp only at hSw); go_simp; (try with_reducible rfl)) ?_
        try simp only [Act.put, List.setIfInBounds_toArray, List.set_cons_zero, List.set_cons_succ]
        refine AnyT.take (i := 17) (cs := [33]) rfl (by kernel_rfl) (by kernel_rfl) (by kernel_rfl) (by kernel_rfl) rfl (by kernel_rfl) (fun _ _ _ h => h) hH (by kernel_rfl) (by intro w hSw; (try dsimp only at hSw); go_simp; (try with_reducible rfl)) ?_
        try simp only [Act.put, List.setIfInBounds_toArray, List.set_cons_zero, List.set_cons_succ]
        refine AnyT.take (i := 18) (cs := [33]) rfl (by kernel_rfl) (by kernel_rfl) (by kernel_rfl) (by kernel_rfl) rfl (by kernel_rfl) (fun _ _ _ h => h) hH (by kernel_rfl) (by intro w hSw; (try dsimp only at hSw); go_simp; (try with_reducible rfl)) ?_
        try simp only [Act.put, List.setIfInBounds_toArray, List.set_cons_zero, List.set_cons_succ]
        refine AnyT.one (i := 19) (by kernel_rfl) rfl (fun K hK => ?_)
        go_simp
        go_at_call 95
        (with_reducible refine (debugFits_i (i := i0) (d := d0) (Ty.up _ hS0 hgr1) (Ty.up _ hT0 hgr1) hst0).mono ?_); rw [HF0.out]
        rintro e v2 ⟨rfl, hg2⟩
        have hgr2 := hgr1.trans hg2
        have y0 := grow_cell hg2 y0
        have y1 := grow_cell hg2 y1
        have y2 := grow_cell hg2 y2
        have y3 := grow_cell hg2 y3
        have m00 := grow_cell hg2 m00
        have m01 := grow_cell hg2 m01
        have n00 := grow_cell hg2 n00
        have n01 := grow_cell hg2 n01
        have n02 := grow_cell hg2 n02
        have n03 := grow_cell hg2 n03
        have n04 := grow_cell hg2 n04
        have m10 := grow_cell hg2 m10
        have m11 := grow_cell hg2 m11
        have n10 := grow_cell hg2 n10
        have n11 := grow_cell hg2 n11
        have n12 := grow_cell hg2 n12
        have n13 := grow_cell hg2 n13
        have n14 := grow_cell hg2 n14
        refine hK.out _ _ (And.intro y0 (And.intro y1 (And.intro y2 (And.intro y3 (And.intro m00 (And.intro m01 (And.intro n00 (And.intro n01 (And.intro n02 (And.intro n03 (And.intro n04 (And.intro m10 (And.intro m11 (And.intro n10 (And.intro n11 (And.intro n12 (And.intro n13 n14))))))))))))))))) (fun hI => ?_)
        clear hK hH
        have hH := hI
        try simp only [Act.put, List.setIfInBounds_toArray, List.set_cons_zero, List.set_cons_succ]
        refine AnyT.take (i := 20) (cs := [33]) rfl (by kernel_rfl) (by kernel_rfl) (by kernel_rfl) (by kernel_rfl) rfl (by kernel_rfl) (fun _ _ _ h => h) hH (by kernel_rfl) (by intro w hSw; (try dsimp only at hSw); go_simp; (try with_reducible rfl)) ?_
        try simp only [Act.put, List.setIfInBounds_toArray, List.set_cons_zero, List.set_cons_succ]
        refine AnyT.take (i := 21) (cs := [33]) rfl (by kernel_rfl) (by kernel_rfl) (by kernel_rfl) (by kernel_rfl) rfl (by kernel_rfl) (fun _ _ _ h => h) hH (by kernel_rfl) (by intro w hSw; (try dsimp only at hSw); go_simp; (try with_reducible rfl)) ?_
        try simp only [Act.put, List.setIfInBounds_toArray, List.set_cons_zero, List.set_cons_succ]
        refine AnyT.skip (i := 22) (cs := [33]) rfl (by kernel_rfl) (by kernel_rfl) (by kernel_rfl) (by kernel_rfl) rfl (by kernel_rfl) (fun _ _ _ h => h) hH (by kernel_rfl) ?_
        try simp only [Act.put, List.setIfInBounds_toArray, List.set_cons_zero, List.set_cons_succ]
        refine AnyT.skip (i := 23) (cs := [33]) rfl (by kernel_rfl) (by kernel_rfl) (by kernel_rfl) (by kernel_rfl) rfl (by kernel_rfl) (fun _ _ _ h => h) hH (by kernel_rfl) ?_
        try simp only [Act.put, List.setIfInBounds_toArray, List.set_cons_zero, List.set_cons_succ]
        refine AnyT.skip (i := 24) (cs := [33]) rfl (by kernel_rfl) (by kernel_rfl) (by kernel_rfl) (by kernel_rfl) rfl (by kernel_rfl) (fun _ _ _ h => h) hH (by kernel_rfl) ?_
        try simp only [Act.put, List.setIfInBounds_toArray, List.set_cons_zero, List.set_cons_succ]
        refine AnyT.skip (i := 25) (cs := [33]) rfl (by kernel_rfl) (by kernel_rfl) (by kernel_rfl) (by kernel_rfl) rfl (by kernel_rfl) (fun _ _ _ h => h) hH (by kernel_rfl) ?_
        try simp only [Act.put, List.setIfInBounds_toArray, List.set_cons_zero, List.set_cons_succ]
        refine AnyT.skip (i := 26) (cs := [33]) rfl (by kernel_rfl) (by kernel_rfl) (by kernel_rfl) (by kernel_rfl) rfl (by kernel_rfl) (fun _ _ _ h => h) hH (by kernel_rfl) ?_
        try simp only [Act.put, List.setIfInBounds_toArray, List.set_cons_zero, List.set_cons_succ]
        refine AnyT.skip (i := 27) (cs := [33]) rfl (by kernel_rfl) (by kernel_rfl) (by kernel_rfl) (by kernel_rfl) rfl (by kernel_rfl) (fun _ _ _ h => h) hH (by kernel_rfl) ?_
        try simp only [Act.put, List.setIfInBounds_toArray, List.set_cons_zero, List.set_cons_succ]
        refine AnyT.skip (i := 28) (cs := [33]) rfl (by kernel_rfl) (by kernel_rfl) (by kernel_rfl) (by kernel_rfl) rfl (by kernel_rfl) (fun _ _ _ h => h) hH (by kernel_rfl) ?_
        try simp only [Act.put, List.setIfInBounds_toArray, List.set_cons_zero, List.set_cons_succ]
        refine AnyT.skip (i := 29) (cs := [33]) rfl (by kernel_rfl) (by kernel_rfl) (by kernel_rfl) (by kernel_rfl) rfl (by kernel_rfl) (fun _ _ _ h => h) hH (by kernel_rfl) ?_
        try simp only [Act.put, List.setIfInBounds_toArray, List.set_cons_zero, List.set_cons_succ]
        refine AnyT.skip (i := 30) (cs := [33]) rfl (by kernel_rfl) (by kernel_rfl) (by kernel_rfl) (by kernel_rfl) rfl (by kernel_rfl) (fun _ _ _ h => h) hH (by kernel_rfl) ?_
        try simp only [Act.put, List.setIfInBounds_toArray, List.set_cons_zero, List.set_cons_succ]
        refine AnyT.skip (i := 31) (cs := [33]) rfl (by kernel_rfl) (by kernel_rfl) (by kernel_rfl) (by kernel_rfl) rfl (by kernel_rfl) (fun _ _ _ h => h) hH (by kernel_rfl) ?_
        try simp only [Act.put, List.setIfInBounds_toArray, List.set_cons_zero, List.set_cons_succ]
        refine AnyT.take (i := 32) (cs := [33]) rfl (by kernel_rfl) (by kernel_rfl) (by kernel_rfl) (by kernel_rfl) rfl (by kernel_rfl) (fun _ _ _ h => h) hH (by kernel_rfl) (by intro w hSw; (try dsimp only at hSw); go_simp; (try with_reducible rfl)) ?_
        try simp only [Act.put, List.setIfInBounds_toArray, List.set_cons_zero, List.set_cons_succ]
        refine AnyT.last (by kernel_rfl) rfl (by kernel_rfl) (fun K hK => ?_)
        go_simp
        refine hK.out _ _ ?_
        clear hK
        try simp only [Act.put, List.setIfInBounds_toArray, List.set_cons_zero, List.set_cons_succ]
        go_wp2_with (fail)
        go_ret
        exact ⟨ret_bool (by rw [HR.out]), hG0.trans hgr2⟩
      | true =>
        have HR := Lib.hid (show agentOk a = f1 from by rw [HAG.out, hf0, hf1]; simp)
        clear hq hi0 hi1 hd0 hd1 hf0 hf1 him2 hst hd2n hA0 hB0
        refine region_T (fun w' => w'.cell? ⟨g, 0, none⟩ = some (.slice (some ⟨gi, oi, none⟩) a.Space.Images.length c0) ∧ w'.cell? ⟨g, 1, none⟩ = some (.slice A1 a.Space.Bases.length c1) ∧ w'.cell? ⟨g, 2, none⟩ = some (.slice A2 a.Space.Entries.length c2) ∧ w'.cell? ⟨g, 3, none⟩ = some (.slice (some ⟨gd, od, none⟩) a.Debugs.length c3) ∧ w'.cell? ⟨gi, oi, none⟩ = some (.string i0.Code) ∧ w'.cell? ⟨gi, oi + 1, none⟩ = some (.slice C0 i0.Symbols.length k0) ∧ w'.cell? ⟨gd, od, none⟩ = some (.int .i64 d0.Id) ∧ w'.cell? ⟨gd, od + 1, none⟩ = some (.slice D00 d0.Symbols.length e00) ∧ w'.cell? ⟨gd, od + 2, none⟩ = some (.slice D01 d0.Rules.length e01) ∧ w'.cell? ⟨gd, od + 3, none⟩ = some (.slice D02 d0.Rows.length e02) ∧ w'.cell? ⟨gd, od + 4, none⟩ = some (.slice D03 d0.Inlines.length e03) ∧ w'.cell? ⟨gi, oi + 2, none⟩ = some (.string i1.Code) ∧ w'.cell? ⟨gi, oi + 3, none⟩ = some (.slice C1 i1.Symbols.length k1) ∧ w'.cell? ⟨gd, od + 5, none⟩ = some (.int .i64 d1.Id) ∧ w'.cell? ⟨gd, od + 6, none⟩ = some (.slice D10 d1.Symbols.length e10) ∧ w'.cell? ⟨gd, od + 7, none⟩ = some (.slice D11 d1.Rules.length e11) ∧ w'.cell? ⟨gd, od + 8, none⟩ = some (.slice D12 d1.Rows.length e12) ∧ w'.cell? ⟨gd, od + 9, none⟩ = some (.slice D13 d1.Inlines.length e13)) 33 (by kernel_rfl) (And.intro (drew_keeps y0) (And.intro (drew_keeps y1) (And.intro (drew_keeps y2) (And.intro (drew_keeps y3) (And.intro (drew_keeps m00) (And.intro (drew_keeps m01) (And.intro (drew_keeps n00) (And.intro (drew_keeps n01) (And.intro (drew_keeps n02) (And.intro (drew_keeps n03) (And.intro (drew_keeps n04) (And.intro (drew_keeps m10) (And.intro (drew_keeps m11) (And.intro (drew_keeps n10) (And.intro (drew_keeps n11) (And.intro (drew_keeps n12) (And.intro (drew_keeps n13) (drew_keeps n14)))))))))))))))))) (fun hH => ?_)
        have hdr : Gro Y Y.drew := (Gro.refl _).drew
        clear y0 y1 y2 y3 m00 m01 n00 n01 n02 n03 n04 m10 m11 n10 n11 n12 n13 n14
        generalize Y.drew = wx at hdr hH ⊢
        obtain ⟨y0, y1, y2, y3, m00, m01, n00, n01, n02, n03, n04, m10, m11, n10, n11, n12, n13, n14⟩ := id hH
        refine AnyT.take (i := 0) (cs := [33]) rfl (by kernel_rfl) (by kernel_rfl) (by kernel_rfl) (by kernel_rfl) rfl (by kernel_rfl) (fun _ _ _ h => h) hH (by kernel_rfl) (by intro w hSw; (try dsimp only at hSw); go_simp; (try with_reducible rfl)) ?_
        try simp only [Act.put, List.setIfInBounds_toArray, List.set_cons_zero, List.set_cons_succ]
        refine AnyT.take (i := 1) (cs := [33]) rfl (by kernel_rfl) (by kernel_rfl) (by kernel_rfl) (by kernel_rfl) rfl (by kernel_rfl) (fun _ _ _ h => h) hH (by kernel_rfl) (by intro w hSw; (try dsimp only at hSw); go_simp; (try with_reducible rfl)) ?_
        try simp only [Act.put, List.setIfInBounds_toArray, List.set_cons_zero, List.set_cons_succ]
        refine AnyT.one (i := 2) (by kernel_rfl) rfl (fun K hK => ?_)
        go_simp
        go_at_call 80
        (with_reducible refine (spaceOk_i (s := a.Space) (Ty.up _ z0 hdr) (Ty.up _ z1 hdr) (Ty.up _ z2 hdr) hs).mono ?_); rw [HQ.out]
        rintro e v1 ⟨rfl, hg1⟩
        have hgr1 := hdr.trans hg1
        have y0 := grow_cell hg1 y0
        have y1 := grow_cell hg1 y1
        have y2 := grow_cell hg1 y2
        have y3 := grow_cell hg1 y3
        have m00 := grow_cell hg1 m00
        have m01 := grow_cell hg1 m01
        have n00 := grow_cell hg1 n00
        have n01 := grow_cell hg1 n01
        have n02 := grow_cell hg1 n02
        have n03 := grow_cell hg1 n03
        have n04 := grow_cell hg1 n04
        have m10 := grow_cell hg1 m10
        have m11 := grow_cell hg1 m11
        have n10 := grow_cell hg1 n10
        have n11 := grow_cell hg1 n11
        have n12 := grow_cell hg1 n12
        have n13 := grow_cell hg1 n13
        have n14 := grow_cell hg1 n14
        refine hK.out _ _ (And.intro y0 (And.intro y1 (And.intro y2 (And.intro y3 (And.intro m00 (And.intro m01 (And.intro n00 (And.intro n01 (And.intro n02 (And.intro n03 (And.intro n04 (And.intro m10 (And.intro m11 (And.intro n10 (And.intro n11 (And.intro n12 (And.intro n13 n14))))))))))))))))) (fun hI => ?_)
        clear hK hH
        have hH := hI
        try simp only [Act.put, List.setIfInBounds_toArray, List.set_cons_zero, List.set_cons_succ]
        refine AnyT.take (i := 3) (cs := [33]) rfl (by kernel_rfl) (by kernel_rfl) (by kernel_rfl) (by kernel_rfl) rfl (by kernel_rfl) (fun _ _ _ h => h) hH (by kernel_rfl) (by intro w hSw; (try dsimp only at hSw); go_simp; (try with_reducible rfl)) ?_
        try simp only [Act.put, List.setIfInBounds_toArray, List.set_cons_zero, List.set_cons_succ]
        refine AnyT.take (i := 4) (cs := [33]) rfl (by kernel_rfl) (by kernel_rfl) (by kernel_rfl) (by kernel_rfl) rfl (by kernel_rfl) (fun _ _ _ h => h) hH (by kernel_rfl) (by intro w hSw; (try dsimp only at hSw); go_simp; (try with_reducible rfl)) ?_
        try simp only [Act.put, List.setIfInBounds_toArray, List.set_cons_zero, List.set_cons_succ]
        refine AnyT.take (i := 5) (cs := [33]) rfl (by kernel_rfl) (by kernel_rfl) (by kernel_rfl) (by kernel_rfl) rfl (by kernel_rfl) (fun _ _ _ h => h) hH (by kernel_rfl) (by intro w hSw; (try dsimp only at hSw); go_simp; (try with_reducible rfl)) ?_
        try simp only [Act.put, List.setIfInBounds_toArray, List.set_cons_zero, List.set_cons_succ]
        refine AnyT.take (i := 6) (cs := [33]) rfl (by kernel_rfl) (by kernel_rfl) (by kernel_rfl) (by kernel_rfl) rfl (by kernel_rfl) (fun _ _ _ h => h) hH (by kernel_rfl) (by intro w hSw; (try dsimp only at hSw); go_simp; (try with_reducible rfl)) ?_
        try simp only [Act.put, List.setIfInBounds_toArray, List.set_cons_zero, List.set_cons_succ]
        refine AnyT.take (i := 7) (cs := [33]) rfl (by kernel_rfl) (by kernel_rfl) (by kernel_rfl) (by kernel_rfl) rfl (by kernel_rfl) (fun _ _ _ h => h) hH (by kernel_rfl) (by intro w hSw; (try dsimp only at hSw); go_simp; (try with_reducible rfl)) ?_
        try simp only [Act.put, List.setIfInBounds_toArray, List.set_cons_zero, List.set_cons_succ]
        refine AnyT.take (i := 8) (cs := [33]) rfl (by kernel_rfl) (by kernel_rfl) (by kernel_rfl) (by kernel_rfl) rfl (by kernel_rfl) (fun _ _ _ h => h) hH (by kernel_rfl) (by intro w hSw; (try dsimp only at hSw); go_simp; (try with_reducible rfl)) ?_
        try simp only [Act.put, List.setIfInBounds_toArray, List.set_cons_zero, List.set_cons_succ]
        refine AnyT.take (i := 9) (cs := [33]) rfl (by kernel_rfl) (by kernel_rfl) (by kernel_rfl) (by kernel_rfl) rfl (by kernel_rfl) (fun _ _ _ h => h) hH (by kernel_rfl) (by intro w hSw; (try dsimp only at hSw); go_simp; (try with_reducible rfl)) ?_
        try simp only [Act.put, List.setIfInBounds_toArray, List.set_cons_zero, List.set_cons_succ]
        refine AnyT.take (i := 10) (cs := [33]) rfl (by kernel_rfl) (by kernel_rfl) (by kernel_rfl) (by kernel_rfl) rfl (by kernel_rfl) (fun _ _ _ h => h) hH (by kernel_rfl) (by intro w hSw; (try dsimp only at hSw); go_simp; (try with_reducible rfl)) ?_
        try simp only [Act.put, List.setIfInBounds_toArray, List.set_cons_zero, List.set_cons_succ]
        refine AnyT.take (i := 11) (cs := [33]) rfl (by kernel_rfl) (by kernel_rfl) (by kernel_rfl) (by kernel_rfl) rfl (by kernel_rfl) (fun _ _ _ h => h) hH (by kernel_rfl) (by intro w hSw; (try dsimp only at hSw); go_simp; (try with_reducible rfl)) ?_
        try simp only [Act.put, List.setIfInBounds_toArray, List.set_cons_zero, List.set_cons_succ]
        refine AnyT.take (i := 12) (cs := [33]) rfl (by kernel_rfl) (by kernel_rfl) (by kernel_rfl) (by kernel_rfl) rfl (by kernel_rfl) (fun _ _ _ h => h) hH (by kernel_rfl) (by intro w hSw; (try dsimp only at hSw); go_simp; (try with_reducible rfl)) ?_
        try simp only [Act.put, List.setIfInBounds_toArray, List.set_cons_zero, List.set_cons_succ]
        refine AnyT.take (i := 13) (cs := [33]) rfl (by kernel_rfl) (by kernel_rfl) (by kernel_rfl) (by kernel_rfl) rfl (by kernel_rfl) (fun _ _ _ h => h) hH (by kernel_rfl) (by intro w hSw; (try dsimp only at hSw); go_simp; (try with_reducible rfl)) ?_
        try simp only [Act.put, List.setIfInBounds_toArray, List.set_cons_zero, List.set_cons_succ]
        refine AnyT.take (i := 14) (cs := [33]) rfl (by kernel_rfl) (by kernel_rfl) (by kernel_rfl) (by kernel_rfl) rfl (by kernel_rfl) (fun _ _ _ h => h) hH (by kernel_rfl) (by intro w hSw; (try dsimp only at hSw); go_simp; (try with_reducible rfl)) ?_
        try simp only [Act.put, List.setIfInBounds_toArray, List.set_cons_zero, List.set_cons_succ]
        refine AnyT.take (i := 15) (cs := [33]) rfl (by kernel_rfl) (by kernel_rfl) (by kernel_rfl) (by kernel_rfl) rfl (by kernel_rfl) (fun _ _ _ h => h) hH (by kernel_rfl) (by intro w hSw; (try dsimp only at hSw); go_simp; (try with_reducible rfl)) ?_
        try simp only [Act.put, List.setIfInBounds_toArray, List.set_cons_zero, List.set_cons_succ]
        refine AnyT.take (i := 16) (cs := [33]) rfl (by kernel_rfl) (by kernel_rfl) (by kernel_rfl) (by kernel_rfl) rfl (by kernel_rfl) (fun _ _ _ h => h) hH (by kernel_rfl) (by intro w hSw; (try dsimp only at hSw); go_simp; (try with_reducible rfl)) ?_
        try simp only [Act.put, List.setIfInBounds_toArray, List.set_cons_zero, List.set_cons_succ]
        refine AnyT.take (i := 17) (cs := [33]) rfl (by kernel_rfl) (by kernel_rfl) (by kernel_rfl) (by kernel_rfl) rfl (by kernel_rfl) (fun _ _ _ h => h) hH (by kernel_rfl) (by intro w hSw; (try dsimp only at hSw); go_simp; (try with_reducible rfl)) ?_
        try simp only [Act.put, List.setIfInBounds_toArray, List.set_cons_zero, List.set_cons_succ]
        refine AnyT.take (i := 18) (cs := [33]) rfl (by kernel_rfl) (by kernel_rfl) (by kernel_rfl) (by kernel_rfl) rfl (by kernel_rfl) (fun _ _ _ h => h) hH (by kernel_rfl) (by intro w hSw; (try dsimp only at hSw); go_simp; (try with_reducible rfl)) ?_
        try simp only [Act.put, List.setIfInBounds_toArray, List.set_cons_zero, List.set_cons_succ]
        refine AnyT.one (i := 19) (by kernel_rfl) rfl (fun K hK => ?_)
        go_simp
        go_at_call 95
        (with_reducible refine (debugFits_i (i := i0) (d := d0) (Ty.up _ hS0 hgr1) (Ty.up _ hT0 hgr1) hst0).mono ?_); rw [HF0.out]
        rintro e v2 ⟨rfl, hg2⟩
        have hgr2 := hgr1.trans hg2
        have y0 := grow_cell hg2 y0
        have y1 := grow_cell hg2 y1
        have y2 := grow_cell hg2 y2
        have y3 := grow_cell hg2 y3
        have m00 := grow_cell hg2 m00
        have m01 := grow_cell hg2 m01
        have n00 := grow_cell hg2 n00
        have n01 := grow_cell hg2 n01
        have n02 := grow_cell hg2 n02
        have n03 := grow_cell hg2 n03
        have n04 := grow_cell hg2 n04
        have m10 := grow_cell hg2 m10
        have m11 := grow_cell hg2 m11
        have n10 := grow_cell hg2 n10
        have n11 := grow_cell hg2 n11
        have n12 := grow_cell hg2 n12
        have n13 := grow_cell hg2 n13
        have n14 := grow_cell hg2 n14
        refine hK.out _ _ (And.intro y0 (And.intro y1 (And.intro y2 (And.intro y3 (And.intro m00 (And.intro m01 (And.intro n00 (And.intro n01 (And.intro n02 (And.intro n03 (And.intro n04 (And.intro m10 (And.intro m11 (And.intro n10 (And.intro n11 (And.intro n12 (And.intro n13 n14))))))))))))))))) (fun hI => ?_)
        clear hK hH
        have hH := hI
        try simp only [Act.put, List.setIfInBounds_toArray, List.set_cons_zero, List.set_cons_succ]
        refine AnyT.take (i := 20) (cs := [33]) rfl (by kernel_rfl) (by kernel_rfl) (by kernel_rfl) (by kernel_rfl) rfl (by kernel_rfl) (fun _ _ _ h => h) hH (by kernel_rfl) (by intro w hSw; (try dsimp only at hSw); go_simp; (try with_reducible rfl)) ?_
        try simp only [Act.put, List.setIfInBounds_toArray, List.set_cons_zero, List.set_cons_succ]
        refine AnyT.take (i := 21) (cs := [33]) rfl (by kernel_rfl) (by kernel_rfl) (by kernel_rfl) (by kernel_rfl) rfl (by kernel_rfl) (fun _ _ _ h => h) hH (by kernel_rfl) (by intro w hSw; (try dsimp only at hSw); go_simp; (try with_reducible rfl)) ?_
        try simp only [Act.put, List.setIfInBounds_toArray, List.set_cons_zero, List.set_cons_succ]
        refine AnyT.take (i := 22) (cs := [33]) rfl (by kernel_rfl) (by kernel_rfl) (by kernel_rfl) (by kernel_rfl) rfl (by kernel_rfl) (fun _ _ _ h => h) hH (by kernel_rfl) (by intro w hSw; (try dsimp only at hSw); go_simp; (try with_reducible rfl)) ?_
        try simp only [Act.put, List.setIfInBounds_toArray, List.set_cons_zero, List.set_cons_succ]
        refine AnyT.take (i := 23) (cs := [33]) rfl (by kernel_rfl) (by kernel_rfl) (by kernel_rfl) (by kernel_rfl) rfl (by kernel_rfl) (fun _ _ _ h => h) hH (by kernel_rfl) (by intro w hSw; (try dsimp only at hSw); go_simp; (try with_reducible rfl)) ?_
        try simp only [Act.put, List.setIfInBounds_toArray, List.set_cons_zero, List.set_cons_succ]
        refine AnyT.take (i := 24) (cs := [33]) rfl (by kernel_rfl) (by kernel_rfl) (by kernel_rfl) (by kernel_rfl) rfl (by kernel_rfl) (fun _ _ _ h => h) hH (by kernel_rfl) (by intro w hSw; (try dsimp only at hSw); go_simp; (try with_reducible rfl)) ?_
        try simp only [Act.put, List.setIfInBounds_toArray, List.set_cons_zero, List.set_cons_succ]
        refine AnyT.take (i := 25) (cs := [33]) rfl (by kernel_rfl) (by kernel_rfl) (by kernel_rfl) (by kernel_rfl) rfl (by kernel_rfl) (fun _ _ _ h => h) hH (by kernel_rfl) (by intro w hSw; (try dsimp only at hSw); go_simp; (try with_reducible rfl)) ?_
        try simp only [Act.put, List.setIfInBounds_toArray, List.set_cons_zero, List.set_cons_succ]
        refine AnyT.take (i := 26) (cs := [33]) rfl (by kernel_rfl) (by kernel_rfl) (by kernel_rfl) (by kernel_rfl) rfl (by kernel_rfl) (fun _ _ _ h => h) hH (by kernel_rfl) (by intro w hSw; (try dsimp only at hSw); go_simp; (try with_reducible rfl)) ?_
        try simp only [Act.put, List.setIfInBounds_toArray, List.set_cons_zero, List.set_cons_succ]
        refine AnyT.take (i := 27) (cs := [33]) rfl (by kernel_rfl) (by kernel_rfl) (by kernel_rfl) (by kernel_rfl) rfl (by kernel_rfl) (fun _ _ _ h => h) hH (by kernel_rfl) (by intro w hSw; (try dsimp only at hSw); go_simp; (try with_reducible rfl)) ?_
        try simp only [Act.put, List.setIfInBounds_toArray, List.set_cons_zero, List.set_cons_succ]
        refine AnyT.take (i := 28) (cs := [33]) rfl (by kernel_rfl) (by kernel_rfl) (by kernel_rfl) (by kernel_rfl) rfl (by kernel_rfl) (fun _ _ _ h => h) hH (by kernel_rfl) (by intro w hSw; (try dsimp only at hSw); go_simp; (try with_reducible rfl)) ?_
        try simp only [Act.put, List.setIfInBounds_toArray, List.set_cons_zero, List.set_cons_succ]
        refine AnyT.take (i := 29) (cs := [33]) rfl (by kernel_rfl) (by kernel_rfl) (by kernel_rfl) (by kernel_rfl) rfl (by kernel_rfl) (fun _ _ _ h => h) hH (by kernel_rfl) (by intro w hSw; (try dsimp only at hSw); go_simp; (try with_reducible rfl)) ?_
        try simp only [Act.put, List.setIfInBounds_toArray, List.set_cons_zero, List.set_cons_succ]
        refine AnyT.take (i := 30) (cs := [33]) rfl (by kernel_rfl) (by kernel_rfl) (by kernel_rfl) (by kernel_rfl) rfl (by kernel_rfl) (fun _ _ _ h => h) hH (by kernel_rfl) (by intro w hSw; (try dsimp only at hSw); go_simp; (try with_reducible rfl)) ?_
        try simp only [Act.put, List.setIfInBounds_toArray, List.set_cons_zero, List.set_cons_succ]
        refine AnyT.one (i := 31) (by kernel_rfl) rfl (fun K hK => ?_)
        go_simp
        go_at_call 95
        (with_reducible refine (debugFits_i (i := i1) (d := d1) (Ty.up _ hS1 hgr2) (Ty.up _ hT1 hgr2) hst1).mono ?_); rw [HF1.out]
        rintro e v3 ⟨rfl, hg3⟩
        have hgr3 := hgr2.trans hg3
        have y0 := grow_cell hg3 y0
        have y1 := grow_cell hg3 y1
        have y2 := grow_cell hg3 y2
        have y3 := grow_cell hg3 y3
        have m00 := grow_cell hg3 m00
        have m01 := grow_cell hg3 m01
        have n00 := grow_cell hg3 n00
        have n01 := grow_cell hg3 n01
        have n02 := grow_cell hg3 n02
        have n03 := grow_cell hg3 n03
        have n04 := grow_cell hg3 n04
        have m10 := grow_cell hg3 m10
        have m11 := grow_cell hg3 m11
        have n10 := grow_cell hg3 n10
        have n11 := grow_cell hg3 n11
        have n12 := grow_cell hg3 n12
        have n13 := grow_cell hg3 n13
        have n14 := grow_cell hg3 n14
        refine hK.out _ _ (And.intro y0 (And.intro y1 (And.intro y2 (And.intro y3 (And.intro m00 (And.intro m01 (And.intro n00 (And.intro n01 (And.intro n02 (And.intro n03 (And.intro n04 (And.intro m10 (And.intro m11 (And.intro n10 (And.intro n11 (And.intro n12 (And.intro n13 n14))))))))))))))))) (fun hI => ?_)
        clear hK hH
        have hH := hI
        try simp only [Act.put, List.setIfInBounds_toArray, List.set_cons_zero, List.set_cons_succ]
        refine AnyT.take (i := 32) (cs := [33]) rfl (by kernel_rfl) (by kernel_rfl) (by kernel_rfl) (by kernel_rfl) rfl (by kernel_rfl) (fun _ _ _ h => h) hH (by kernel_rfl) (by intro w hSw; (try dsimp only at hSw); go_simp; (try with_reducible rfl)) ?_
        try simp only [Act.put, List.setIfInBounds_toArray, List.set_cons_zero, List.set_cons_succ]
        refine AnyT.last (by kernel_rfl) rfl (by kernel_rfl) (fun K hK => ?_)
        go_simp
        refine hK.out _ _ ?_
        clear hK
        try simp only [Act.put, List.setIfInBounds_toArray, List.set_cons_zero, List.set_cons_succ]
        go_wp2_with (fail)
        go_ret
        exact ⟨ret_bool (by rw [HR.out]), hG0.trans hgr3⟩
set_option maxRecDepth 100000 in
set_option maxHeartbeats 3000000 in
theorem agentOk_s {a : DAgent} {w : World} {A0 A1 A2 A3 : Option Addr} {c0 c1 c2 c3 : Nat} (h0 : (tImage.sl 113).R w w.heap.size [.slice A0 a.Space.Images.length c0] a.Space.Images) (h1 : (intT.sl 3).R w w.heap.size [.slice A1 a.Space.Bases.length c1] a.Space.Bases)
    (h2 : (intT.sl 3).R w w.heap.size [.slice A2 a.Space.Entries.length c2] a.Space.Entries) (h3 : (tDebug.sl 97).R w w.heap.size [.slice A3 a.Debugs.length c3] a.Debugs) (hs : szSpace a.Space ≤ 1099511627776) :
    Calls Tryz.prog 91 #[.agg #[.slice A0 a.Space.Images.length c0, .slice A1 a.Space.Bases.length c1, .slice A2 a.Space.Entries.length c2, .slice A3 a.Debugs.length c3]] w fun r w' => r = .returned (.bool (agentOk a)) ∧ Gro w w' := by
  have hG0 : Gro w (w.alloc (.cells #[.slice A0 a.Space.Images.length c0, .slice A1 a.Space.Bases.length c1, .slice A2 a.Space.Entries.length c2, .slice A3 a.Debugs.length c3] 31)) := gG
  have eb := heap_alloc_new w (.cells #[.slice A0 a.Space.Images.length c0, .slice A1 a.Space.Bases.length c1, .slice A2 a.Space.Entries.length c2, .slice A3 a.Debugs.length c3] 31)
  have z0 := Ty.up _ h0 hG0
  have z1 := Ty.up _ h1 hG0
  have z2 := Ty.up _ h2 hG0
  have z3 := Ty.up _ h3 hG0
  obtain ⟨g, hg⟩ : ∃ g, w.heap.size = g := ⟨_, rfl⟩
  obtain ⟨q, hq⟩ : ∃ q, spaceOk a.Space = q := ⟨_, rfl⟩
  have HQ := Lib.hid hq
  go_enter Tryz.func91, Tryz.ntmps91
  go_upto_region 1 with (fail)
  rw [hg] at eb
  generalize w.alloc (.cells #[.slice A0 a.Space.Images.length c0, .slice A1 a.Space.Bases.length c1, .slice A2 a.Space.Entries.length c2, .slice A3 a.Debugs.length c3] 31) = Y at hG0 eb z0 z1 z2 z3 ⊢
  clear h0 h1 h2 h3
  obtain ⟨y0, y1, y2, y3, yf, yl⟩ := row4 eb
  cases q with
  | false =>
    have HR := Lib.hid (show agentOk a = false from by unfold agentOk; rw [hq]; rfl)
    clear hq
    go_wp2_with (go_at_call 76; (with_reducible refine (spaceOk_s (s := a.Space) z0 z1 z2 hs).mono ?_); rw [HQ.out]; rintro e v0 ⟨rfl, hg0⟩; have y0 := grow_cell hg0 y0; have y1 := grow_cell hg0 y1; have y2 := grow_cell hg0 y2; have y3 := grow_cell hg0 y3)
    go_ret
    exact ⟨ret_bool (by rw [HR.out]), hG0.trans hg0⟩
  | true =>
    by_cases hd2n : a.Debugs.length = 2
    case neg =>
      have HR := Lib.hid (show agentOk a = false from by unfold agentOk; rw [decide_eq_false hd2n]; simp)
      have hd2 : ((a.Debugs.length : Int) == 2) = false := by simp; omega
      have hd3 : ((a.Debugs.length : Int) != 2) = true := by simp; omega
      clear hd2n hq
      go_wp2_with (go_at_call 76; (with_reducible refine (spaceOk_s (s := a.Space) z0 z1 z2 hs).mono ?_); rw [HQ.out]; rintro e v0 ⟨rfl, hg0⟩; have y0 := grow_cell hg0 y0; have y1 := grow_cell hg0 y1; have y2 := grow_cell hg0 y2; have y3 := grow_cell hg0 y3)
      go_ret
      exact ⟨ret_bool (by rw [HR.out]), hG0.trans hg0⟩
    case pos =>
      obtain ⟨him2, hst⟩ : a.Space.Images.length = 2 ∧ ∀ i ∈ a.Space.Images, i.Code.size ≤ 1000000 := by
        have h1 := hq
        simp only [spaceOk, Bool.and_eq_true, decide_eq_true_eq, List.all_eq_true] at h1
        refine ⟨by omega, fun i hi => ?_⟩
        have h2 := h1.1.1.1.2 i hi
        simp only [imageOk, Bool.and_eq_true, decide_eq_true_eq] at h2
        exact h2.1
      have hd2 : ((a.Debugs.length : Int) == 2) = true := by simp; omega
      have hd3 : ((a.Debugs.length : Int) != 2) = false := by simp; omega
      have hx0 : (0 : Int) < (a.Space.Images.length : Int) := by omega
      have hx1 : (1 : Int) < (a.Space.Images.length : Int) := by omega
      have hx2 : (0 : Int) < (a.Debugs.length : Int) := by omega
      have hx3 : (1 : Int) < (a.Debugs.length : Int) := by omega
      have hx4 : 0 < a.Space.Images.length := by omega
      have hx5 : 1 < a.Space.Images.length := by omega
      have hx6 : 0 < a.Debugs.length := by omega
      have hx7 : 1 < a.Debugs.length := by omega
      obtain ⟨gi, oi, i0, C0, k0, hA0, _, hi0, m00, m01, _, hS0⟩ := atImage z0 (k := 0) (by omega)
      obtain ⟨gi', oi', i1, C1, k1, hA1, _, hi1, m10, m11, _, hS1⟩ := atImage z0 (k := 1) (by omega)
      obtain ⟨gd, od, d0, D00, e00, D01, e01, D02, e02, D03, e03, hB0, _, hd0, n00, n01, n02, n03, n04, _, hT0, _, _, _⟩ := atDebug z3 (k := 0) (by omega)
      obtain ⟨gd', od', d1, D10, e10, D11, e11, D12, e12, D13, e13, hB1, _, hd1, n10, n11, n12, n13, n14, _, hT1, _, _, _⟩ := atDebug z3 (k := 1) (by omega)
      rw [hA0] at hA1
      injection hA1 with hA1
      injection hA1 with q1 q2
      subst q1 q2
      rw [hB0] at hB1
      injection hB1 with hB1
      injection hB1 with q1 q2
      subst q1 q2
      simp only [Nat.zero_mul, Nat.add_zero, Nat.one_mul, Nat.add_assoc, Nat.reduceAdd] at m00 m01 m10 m11 n00 n01 n02 n03 n04 n10 n11 n12 n13 n14
      have hst0 : i0.Code.size ≤ 1099511627776 := by have := hst i0 (List.mem_of_getElem? hi0); omega
      have hst1 : i1.Code.size ≤ 1099511627776 := by have := hst i1 (List.mem_of_getElem? hi1); omega
      have HAG := Lib.hid (agentOk_two hq hd2n hi0 hi1 hd0 hd1)
      obtain ⟨f0, hf0⟩ : ∃ b, fitsD i0 d0 = b := ⟨_, rfl⟩
      have HF0 := Lib.hid hf0
      obtain ⟨f1, hf1⟩ : ∃ b, fitsD i1 d1 = b := ⟨_, rfl⟩
      have HF1 := Lib.hid hf1
      rw [hA0] at y0 z0
      rw [hB0] at y3
      cases f0 with
      | false =>
        have HR := Lib.hid (show agentOk a = false from by rw [HAG.out, hf0]; rfl)
        clear hq hi0 hi1 hd0 hd1 hf0 hf1 him2 hst hd2n hA0 hB0
        go_upto_region 3 with (go_at_call 76; (with_reducible refine (spaceOk_s (s := a.Space) z0 z1 z2 hs).mono ?_); rw [HQ.out]; rintro e v0 ⟨rfl, hg0⟩; have y0 := grow_cell hg0 y0; have y1 := grow_cell hg0 y1; have y2 := grow_cell hg0 y2; have y3 := grow_cell hg0 y3)
        have m00 := grow_cell hg0 m00
        have m01 := grow_cell hg0 m01
        have n00 := grow_cell hg0 n00
        have n01 := grow_cell hg0 n01
        have n02 := grow_cell hg0 n02
        have n03 := grow_cell hg0 n03
        have n04 := grow_cell hg0 n04
        have m10 := grow_cell hg0 m10
        have m11 := grow_cell hg0 m11
        have n10 := grow_cell hg0 n10
        have n11 := grow_cell hg0 n11
        have n12 := grow_cell hg0 n12
        have n13 := grow_cell hg0 n13
        have n14 := grow_cell hg0 n14
        refine region_T (fun w' => w'.cell? ⟨g, 0, none⟩ = some (.slice (some ⟨gi, oi, none⟩) a.Space.Images.length c0) ∧ w'.cell? ⟨g, 1, none⟩ = some (.slice A1 a.Space.Bases.length c1) ∧ w'.cell? ⟨g, 2, none⟩ = some (.slice A2 a.Space.Entries.length c2) ∧ w'.cell? ⟨g, 3, none⟩ = some (.slice (some ⟨gd, od, none⟩) a.Debugs.length c3) ∧ w'.cell? ⟨gi, oi, none⟩ = some (.string i0.Code) ∧ w'.cell? ⟨gi, oi + 1, none⟩ = some (.slice C0 i0.Symbols.length k0) ∧ w'.cell? ⟨gd, od, none⟩ = some (.int .i64 d0.Id) ∧ w'.cell? ⟨gd, od + 1, none⟩ = some (.slice D00 d0.Symbols.length e00) ∧ w'.cell? ⟨gd, od + 2, none⟩ = some (.slice D01 d0.Rules.length e01) ∧ w'.cell? ⟨gd, od + 3, none⟩ = some (.slice D02 d0.Rows.length e02) ∧ w'.cell? ⟨gd, od + 4, none⟩ = some (.slice D03 d0.Inlines.length e03) ∧ w'.cell? ⟨gi, oi + 2, none⟩ = some (.string i1.Code) ∧ w'.cell? ⟨gi, oi + 3, none⟩ = some (.slice C1 i1.Symbols.length k1) ∧ w'.cell? ⟨gd, od + 5, none⟩ = some (.int .i64 d1.Id) ∧ w'.cell? ⟨gd, od + 6, none⟩ = some (.slice D10 d1.Symbols.length e10) ∧ w'.cell? ⟨gd, od + 7, none⟩ = some (.slice D11 d1.Rules.length e11) ∧ w'.cell? ⟨gd, od + 8, none⟩ = some (.slice D12 d1.Rows.length e12) ∧ w'.cell? ⟨gd, od + 9, none⟩ = some (.slice D13 d1.Inlines.length e13)) 22 (by kernel_rfl) (And.intro (drew_keeps y0) (And.intro (drew_keeps y1) (And.intro (drew_keeps y2) (And.intro (drew_keeps y3) (And.intro (drew_keeps m00) (And.intro (drew_keeps m01) (And.intro (drew_keeps n00) (And.intro (drew_keeps n01) (And.intro (drew_keeps n02) (And.intro (drew_keeps n03) (And.intro (drew_keeps n04) (And.intro (drew_keeps m10) (And.intro (drew_keeps m11) (And.intro (drew_keeps n10) (And.intro (drew_keeps n11) (And.intro (drew_keeps n12) (And.intro (drew_keeps n13) (drew_keeps n14)))))))))))))))))) (fun hH => ?_)
        have hdr : Gro v0 v0.drew := (Gro.refl _).drew
        clear y0 y1 y2 y3 m00 m01 n00 n01 n02 n03 n04 m10 m11 n10 n11 n12 n13 n14
        generalize v0.drew = wx at hdr hH ⊢
        obtain ⟨y0, y1, y2, y3, m00, m01, n00, n01, n02, n03, n04, m10, m11, n10, n11, n12, n13, n14⟩ := id hH
        have hgz := hg0.trans hdr
        refine AnyT.take (i := 0) (cs := [22]) rfl (by kernel_rfl) (by kernel_rfl) (by kernel_rfl) (by kernel_rfl) rfl (by kernel_rfl) (fun _ _ _ h => h) hH (by kernel_rfl) (by intro w hSw; (try dsimp only at hSw); go_simp; (try with_reducible rfl)) ?_
        try simp only [Act.put, List.setIfInBounds_toArray, List.set_cons_zero, List.set_cons_succ]
        refine AnyT.take (i := 1) (cs := [22]) rfl (by kernel_rfl) (by kernel_rfl) (by kernel_rfl) (by kernel_rfl) rfl (by kernel_rfl) (fun _ _ _ h => h) hH (by kernel_rfl) (by intro w hSw; (try dsimp only at hSw); go_simp; (try with_reducible rfl)) ?_
        try simp only [Act.put, List.setIfInBounds_toArray, List.set_cons_zero, List.set_cons_succ]
        refine AnyT.take (i := 2) (cs := [22]) rfl (by kernel_rfl) (by kernel_rfl) (by kernel_rfl) (by kernel_rfl) rfl (by kernel_rfl) (fun _ _ _ h => h) hH (by kernel_rfl) (by intro w hSw; (try dsimp only at hSw); go_simp; (try with_reducible rfl)) ?_
        try simp only [Act.put, List.setIfInBounds_toArray, List.set_cons_zero, List.set_cons_succ]
        refine AnyT.take (i := 3) (cs := [22]) rfl (by kernel_rfl) (by kernel_rfl) (by kernel_rfl) (by kernel_rfl) rfl (by kernel_rfl) (fun _ _ _ h => h) hH (by kernel_rfl) (by intro w hSw; (try dsimp only at hSw); go_simp; (try with_reducible rfl)) ?_
        try simp only [Act.put, List.setIfInBounds_toArray, List.set_cons_zero, List.set_cons_succ]
        refine AnyT.take (i := 4) (cs := [22]) rfl (by kernel_rfl) (by kernel_rfl) (by kernel_rfl) (by kernel_rfl) rfl (by kernel_rfl) (fun _ _ _ h => h) hH (by kernel_rfl) (by intro w hSw; (try dsimp only at hSw); go_simp; (try with_reducible rfl)) ?_
        try simp only [Act.put, List.setIfInBounds_toArray, List.set_cons_zero, List.set_cons_succ]
        refine AnyT.take (i := 5) (cs := [22]) rfl (by kernel_rfl) (by kernel_rfl) (by kernel_rfl) (by kernel_rfl) rfl (by kernel_rfl) (fun _ _ _ h => h) hH (by kernel_rfl) (by intro w hSw; (try dsimp only at hSw); go_simp; (try with_reducible rfl)) ?_
        try simp only [Act.put, List.setIfInBounds_toArray, List.set_cons_zero, List.set_cons_succ]
        refine AnyT.take (i := 6) (cs := [22]) rfl (by kernel_rfl) (by kernel_rfl) (by kernel_rfl) (by kernel_rfl) rfl (by kernel_rfl) (fun _ _ _ h => h) hH (by kernel_rfl) (by intro w hSw; (try dsimp only at hSw); go_simp; (try with_reducible rfl)) ?_
        try simp only [Act.put, List.setIfInBounds_toArray, List.set_cons_zero, List.set_cons_succ]
        refine AnyT.take (i := 7) (cs := [22]) rfl (by kernel_rfl) (by kernel_rfl) (by kernel_rfl) (by kernel_rfl) rfl (by kernel_rfl) (fun _ _ _ h => h) hH (by kernel_rfl) (by intro w hSw; (try dsimp only at hSw); go_simp; (try with_reducible rfl)) ?_
        try simp only [Act.put, List.setIfInBounds_toArray, List.set_cons_zero, List.set_cons_succ]
        refine AnyT.take (i := 8) (cs := [22]) rfl (by kernel_rfl) (by kernel_rfl) (by kernel_rfl) (by kernel_rfl) rfl (by kernel_rfl) (fun _ _ _ h => h) hH (by kernel_rfl) (by intro w hSw; (try dsimp only at hSw); go_simp; (try with_reducible rfl)) ?_
        try simp only [Act.put, List.setIfInBounds_toArray, List.set_cons_zero, List.set_cons_succ]
        refine AnyT.one (i := 9) (by kernel_rfl) rfl (fun K hK => ?_)
        go_simp
        go_at_call 61
        (with_reducible refine (debugFits_s (i := i0) (d := d0) (Ty.up _ hS0 hgz) (Ty.up _ hT0 hgz) hst0).mono ?_); rw [HF0.out]
        rintro e v1 ⟨rfl, hg1⟩
        have hgr1 := hgz.trans hg1
        have y0 := grow_cell hg1 y0
        have y1 := grow_cell hg1 y1
        have y2 := grow_cell hg1 y2
        have y3 := grow_cell hg1 y3
        have m00 := grow_cell hg1 m00
        have m01 := grow_cell hg1 m01
        have n00 := grow_cell hg1 n00
        have n01 := grow_cell hg1 n01
        have n02 := grow_cell hg1 n02
        have n03 := grow_cell hg1 n03
        have n04 := grow_cell hg1 n04
        have m10 := grow_cell hg1 m10
        have m11 := grow_cell hg1 m11
        have n10 := grow_cell hg1 n10
        have n11 := grow_cell hg1 n11
        have n12 := grow_cell hg1 n12
        have n13 := grow_cell hg1 n13
        have n14 := grow_cell hg1 n14
        refine hK.out _ _ (And.intro y0 (And.intro y1 (And.intro y2 (And.intro y3 (And.intro m00 (And.intro m01 (And.intro n00 (And.intro n01 (And.intro n02 (And.intro n03 (And.intro n04 (And.intro m10 (And.intro m11 (And.intro n10 (And.intro n11 (And.intro n12 (And.intro n13 n14))))))))))))))))) (fun hI => ?_)
        clear hK hH
        have hH := hI
        try simp only [Act.put, List.setIfInBounds_toArray, List.set_cons_zero, List.set_cons_succ]
        refine AnyT.take (i := 10) (cs := [22]) rfl (by kernel_rfl) (by kernel_rfl) (by kernel_rfl) (by kernel_rfl) rfl (by kernel_rfl) (fun _ _ _ h => h) hH (by kernel_rfl) (by intro w hSw; (try dsimp only at hSw); go_simp; (try with_reducible rfl)) ?_
        try simp only [Act.put, List.setIfInBounds_toArray, List.set_cons_zero, List.set_cons_succ]
        refine AnyT.skip (i := 11) (cs := [22]) rfl (by kernel_rfl) (by kernel_rfl) (by kernel_rfl) (by kernel_rfl) rfl (by kernel_rfl) (fun _ _ _ h => h) hH (by kernel_rfl) ?_
        try simp only [Act.put, List.setIfInBounds_toArray, List.set_cons_zero, List.set_cons_succ]
        refine AnyT.skip (i := 12) (cs := [22]) rfl (by kernel_rfl) (by kernel_rfl) (by kernel_rfl) (by kernel_rfl) rfl (by kernel_rfl) (fun _ _ _ h => h) hH (by kernel_rfl) ?_
        try simp only [Act.put, List.setIfInBounds_toArray, List.set_cons_zero, List.set_cons_succ]
        refine AnyT.skip (i := 13) (cs := [22]) rfl (by kernel_rfl) (by kernel_rfl) (by kernel_rfl) (by kernel_rfl) rfl (by kernel_rfl) (fun _ _ _ h => h) hH (by kernel_rfl) ?_
        try simp only [Act.put, List.setIfInBounds_toArray, List.set_cons_zero, List.set_cons_succ]
        refine AnyT.skip (i := 14) (cs := [22]) rfl (by kernel_rfl) (by kernel_rfl) (by kernel_rfl) (by kernel_rfl) rfl (by kernel_rfl) (fun _ _ _ h => h) hH (by kernel_rfl) ?_
        try simp only [Act.put, List.setIfInBounds_toArray, List.set_cons_zero, List.set_cons_succ]
        refine AnyT.skip (i := 15) (cs := [22]) rfl (by kernel_rfl) (by kernel_rfl) (by kernel_rfl) (by kernel_rfl) rfl (by kernel_rfl) (fun _ _ _ h => h) hH (by kernel_rfl) ?_
        try simp only [Act.put, List.setIfInBounds_toArray, List.set_cons_zero, List.set_cons_succ]
        refine AnyT.skip (i := 16) (cs := [22]) rfl (by kernel_rfl) (by kernel_rfl) (by kernel_rfl) (by kernel_rfl) rfl (by kernel_rfl) (fun _ _ _ h => h) hH (by kernel_rfl) ?_
        try simp only [Act.put, List.setIfInBounds_toArray, List.set_cons_zero, List.set_cons_succ]
        refine AnyT.skip (i := 17) (cs := [22]) rfl (by kernel_rfl) (by kernel_rfl) (by kernel_rfl) (by kernel_rfl) rfl (by kernel_rfl) (fun _ _ _ h => h) hH (by kernel_rfl) ?_
        try simp only [Act.put, List.setIfInBounds_toArray, List.set_cons_zero, List.set_cons_succ]
        refine AnyT.skip (i := 18) (cs := [22]) rfl (by kernel_rfl) (by kernel_rfl) (by kernel_rfl) (by kernel_rfl) rfl (by kernel_rfl) (fun _ _ _ h => h) hH (by kernel_rfl) ?_
        try simp only [Act.put, List.setIfInBounds_toArray, List.set_cons_zero, List.set_cons_succ]
        refine AnyT.skip (i := 19) (cs := [22]) rfl (by kernel_rfl) (by kernel_rfl) (by kernel_rfl) (by kernel_rfl) rfl (by kernel_rfl) (fun _ _ _ h => h) hH (by kernel_rfl) ?_
        try simp only [Act.put, List.setIfInBounds_toArray, List.set_cons_zero, List.set_cons_succ]
        refine AnyT.skip (i := 20) (cs := [22]) rfl (by kernel_rfl) (by kernel_rfl) (by kernel_rfl) (by kernel_rfl) rfl (by kernel_rfl) (fun _ _ _ h => h) hH (by kernel_rfl) ?_
        try simp only [Act.put, List.setIfInBounds_toArray, List.set_cons_zero, List.set_cons_succ]
        refine AnyT.take (i := 21) (cs := [22]) rfl (by kernel_rfl) (by kernel_rfl) (by kernel_rfl) (by kernel_rfl) rfl (by kernel_rfl) (fun _ _ _ h => h) hH (by kernel_rfl) (by intro w hSw; (try dsimp only at hSw); go_simp; (try with_reducible rfl)) ?_
        try simp only [Act.put, List.setIfInBounds_toArray, List.set_cons_zero, List.set_cons_succ]
        refine AnyT.last (by kernel_rfl) rfl (by kernel_rfl) (fun K hK => ?_)
        go_simp
        refine hK.out _ _ ?_
        clear hK
        try simp only [Act.put, List.setIfInBounds_toArray, List.set_cons_zero, List.set_cons_succ]
        go_wp2_with (fail)
        go_ret
        exact ⟨ret_bool (by rw [HR.out]), hG0.trans hgr1⟩
      | true =>
        have HR := Lib.hid (show agentOk a = f1 from by rw [HAG.out, hf0, hf1]; simp)
        clear hq hi0 hi1 hd0 hd1 hf0 hf1 him2 hst hd2n hA0 hB0
        go_upto_region 3 with (go_at_call 76; (with_reducible refine (spaceOk_s (s := a.Space) z0 z1 z2 hs).mono ?_); rw [HQ.out]; rintro e v0 ⟨rfl, hg0⟩; have y0 := grow_cell hg0 y0; have y1 := grow_cell hg0 y1; have y2 := grow_cell hg0 y2; have y3 := grow_cell hg0 y3)
        have m00 := grow_cell hg0 m00
        have m01 := grow_cell hg0 m01
        have n00 := grow_cell hg0 n00
        have n01 := grow_cell hg0 n01
        have n02 := grow_cell hg0 n02
        have n03 := grow_cell hg0 n03
        have n04 := grow_cell hg0 n04
        have m10 := grow_cell hg0 m10
        have m11 := grow_cell hg0 m11
        have n10 := grow_cell hg0 n10
        have n11 := grow_cell hg0 n11
        have n12 := grow_cell hg0 n12
        have n13 := grow_cell hg0 n13
        have n14 := grow_cell hg0 n14
        refine region_T (fun w' => w'.cell? ⟨g, 0, none⟩ = some (.slice (some ⟨gi, oi, none⟩) a.Space.Images.length c0) ∧ w'.cell? ⟨g, 1, none⟩ = some (.slice A1 a.Space.Bases.length c1) ∧ w'.cell? ⟨g, 2, none⟩ = some (.slice A2 a.Space.Entries.length c2) ∧ w'.cell? ⟨g, 3, none⟩ = some (.slice (some ⟨gd, od, none⟩) a.Debugs.length c3) ∧ w'.cell? ⟨gi, oi, none⟩ = some (.string i0.Code) ∧ w'.cell? ⟨gi, oi + 1, none⟩ = some (.slice C0 i0.Symbols.length k0) ∧ w'.cell? ⟨gd, od, none⟩ = some (.int .i64 d0.Id) ∧ w'.cell? ⟨gd, od + 1, none⟩ = some (.slice D00 d0.Symbols.length e00) ∧ w'.cell? ⟨gd, od + 2, none⟩ = some (.slice D01 d0.Rules.length e01) ∧ w'.cell? ⟨gd, od + 3, none⟩ = some (.slice D02 d0.Rows.length e02) ∧ w'.cell? ⟨gd, od + 4, none⟩ = some (.slice D03 d0.Inlines.length e03) ∧ w'.cell? ⟨gi, oi + 2, none⟩ = some (.string i1.Code) ∧ w'.cell? ⟨gi, oi + 3, none⟩ = some (.slice C1 i1.Symbols.length k1) ∧ w'.cell? ⟨gd, od + 5, none⟩ = some (.int .i64 d1.Id) ∧ w'.cell? ⟨gd, od + 6, none⟩ = some (.slice D10 d1.Symbols.length e10) ∧ w'.cell? ⟨gd, od + 7, none⟩ = some (.slice D11 d1.Rules.length e11) ∧ w'.cell? ⟨gd, od + 8, none⟩ = some (.slice D12 d1.Rows.length e12) ∧ w'.cell? ⟨gd, od + 9, none⟩ = some (.slice D13 d1.Inlines.length e13)) 22 (by kernel_rfl) (And.intro (drew_keeps y0) (And.intro (drew_keeps y1) (And.intro (drew_keeps y2) (And.intro (drew_keeps y3) (And.intro (drew_keeps m00) (And.intro (drew_keeps m01) (And.intro (drew_keeps n00) (And.intro (drew_keeps n01) (And.intro (drew_keeps n02) (And.intro (drew_keeps n03) (And.intro (drew_keeps n04) (And.intro (drew_keeps m10) (And.intro (drew_keeps m11) (And.intro (drew_keeps n10) (And.intro (drew_keeps n11) (And.intro (drew_keeps n12) (And.intro (drew_keeps n13) (drew_keeps n14)))))))))))))))))) (fun hH => ?_)
        have hdr : Gro v0 v0.drew := (Gro.refl _).drew
        clear y0 y1 y2 y3 m00 m01 n00 n01 n02 n03 n04 m10 m11 n10 n11 n12 n13 n14
        generalize v0.drew = wx at hdr hH ⊢
        obtain ⟨y0, y1, y2, y3, m00, m01, n00, n01, n02, n03, n04, m10, m11, n10, n11, n12, n13, n14⟩ := id hH
        have hgz := hg0.trans hdr
        refine AnyT.take (i := 0) (cs := [22]) rfl (by kernel_rfl) (by kernel_rfl) (by kernel_rfl) (by kernel_rfl) rfl (by kernel_rfl) (fun _ _ _ h => h) hH (by kernel_rfl) (by intro w hSw; (try dsimp only at hSw); go_simp; (try with_reducible rfl)) ?_
        try simp only [Act.put, List.setIfInBounds_toArray, List.set_cons_zero, List.set_cons_succ]
        refine AnyT.take (i := 1) (cs := [22]) rfl (by kernel_rfl) (by kernel_rfl) (by kernel_rfl) (by kernel_rfl) rfl (by kernel_rfl) (fun _ _ _ h => h) hH (by kernel_rfl) (by intro w hSw; (try dsimp only at hSw); go_simp; (try with_reducible rfl)) ?_
        try simp only [Act.put, List.setIfInBounds_toArray, List.set_cons_zero, List.set_cons_succ]
        refine AnyT.take (i := 2) (cs := [22]) rfl (by kernel_rfl) (by kernel_rfl) (by kernel_rfl) (by kernel_rfl) rfl (by kernel_rfl) (fun _ _ _ h => h) hH (by kernel_rfl) (by intro w hSw; (try dsimp only at hSw); go_simp; (try with_reducible rfl)) ?_
        try simp only [Act.put, List.setIfInBounds_toArray, List.set_cons_zero, List.set_cons_succ]
        refine AnyT.take (i := 3) (cs := [22]) rfl (by kernel_rfl) (by kernel_rfl) (by kernel_rfl) (by kernel_rfl) rfl (by kernel_rfl) (fun _ _ _ h => h) hH (by kernel_rfl) (by intro w hSw; (try dsimp only at hSw); go_simp; (try with_reducible rfl)) ?_
        try simp only [Act.put, List.setIfInBounds_toArray, List.set_cons_zero, List.set_cons_succ]
        refine AnyT.take (i := 4) (cs := [22]) rfl (by kernel_rfl) (by kernel_rfl) (by kernel_rfl) (by kernel_rfl) rfl (by kernel_rfl) (fun _ _ _ h => h) hH (by kernel_rfl) (by intro w hSw; (try dsimp only at hSw); go_simp; (try with_reducible rfl)) ?_
        try simp only [Act.put, List.setIfInBounds_toArray, List.set_cons_zero, List.set_cons_succ]
        refine AnyT.take (i := 5) (cs := [22]) rfl (by kernel_rfl) (by kernel_rfl) (by kernel_rfl) (by kernel_rfl) rfl (by kernel_rfl) (fun _ _ _ h => h) hH (by kernel_rfl) (by intro w hSw; (try dsimp only at hSw); go_simp; (try with_reducible rfl)) ?_
        try simp only [Act.put, List.setIfInBounds_toArray, List.set_cons_zero, List.set_cons_succ]
        refine AnyT.take (i := 6) (cs := [22]) rfl (by kernel_rfl) (by kernel_rfl) (by kernel_rfl) (by kernel_rfl) rfl (by kernel_rfl) (fun _ _ _ h => h) hH (by kernel_rfl) (by intro w hSw; (try dsimp only at hSw); go_simp; (try with_reducible rfl)) ?_
        try simp only [Act.put, List.setIfInBounds_toArray, List.set_cons_zero, List.set_cons_succ]
        refine AnyT.take (i := 7) (cs := [22]) rfl (by kernel_rfl) (by kernel_rfl) (by kernel_rfl) (by kernel_rfl) rfl (by kernel_rfl) (fun _ _ _ h => h) hH (by kernel_rfl) (by intro w hSw; (try dsimp only at hSw); go_simp; (try with_reducible rfl)) ?_
        try simp only [Act.put, List.setIfInBounds_toArray, List.set_cons_zero, List.set_cons_succ]
        refine AnyT.take (i := 8) (cs := [22]) rfl (by kernel_rfl) (by kernel_rfl) (by kernel_rfl) (by kernel_rfl) rfl (by kernel_rfl) (fun _ _ _ h => h) hH (by kernel_rfl) (by intro w hSw; (try dsimp only at hSw); go_simp; (try with_reducible rfl)) ?_
        try simp only [Act.put, List.setIfInBounds_toArray, List.set_cons_zero, List.set_cons_succ]
        refine AnyT.one (i := 9) (by kernel_rfl) rfl (fun K hK => ?_)
        go_simp
        go_at_call 61
        (with_reducible refine (debugFits_s (i := i0) (d := d0) (Ty.up _ hS0 hgz) (Ty.up _ hT0 hgz) hst0).mono ?_); rw [HF0.out]
        rintro e v1 ⟨rfl, hg1⟩
        have hgr1 := hgz.trans hg1
        have y0 := grow_cell hg1 y0
        have y1 := grow_cell hg1 y1
        have y2 := grow_cell hg1 y2
        have y3 := grow_cell hg1 y3
        have m00 := grow_cell hg1 m00
        have m01 := grow_cell hg1 m01
        have n00 := grow_cell hg1 n00
        have n01 := grow_cell hg1 n01
        have n02 := grow_cell hg1 n02
        have n03 := grow_cell hg1 n03
        have n04 := grow_cell hg1 n04
        have m10 := grow_cell hg1 m10
        have m11 := grow_cell hg1 m11
        have n10 := grow_cell hg1 n10
        have n11 := grow_cell hg1 n11
        have n12 := grow_cell hg1 n12
        have n13 := grow_cell hg1 n13
        have n14 := grow_cell hg1 n14
        refine hK.out _ _ (And.intro y0 (And.intro y1 (And.intro y2 (And.intro y3 (And.intro m00 (And.intro m01 (And.intro n00 (And.intro n01 (And.intro n02 (And.intro n03 (And.intro n04 (And.intro m10 (And.intro m11 (And.intro n10 (And.intro n11 (And.intro n12 (And.intro n13 n14))))))))))))))))) (fun hI => ?_)
        clear hK hH
        have hH := hI
        try simp only [Act.put, List.setIfInBounds_toArray, List.set_cons_zero, List.set_cons_succ]
        refine AnyT.take (i := 10) (cs := [22]) rfl (by kernel_rfl) (by kernel_rfl) (by kernel_rfl) (by kernel_rfl) rfl (by kernel_rfl) (fun _ _ _ h => h) hH (by kernel_rfl) (by intro w hSw; (try dsimp only at hSw); go_simp; (try with_reducible rfl)) ?_
        try simp only [Act.put, List.setIfInBounds_toArray, List.set_cons_zero, List.set_cons_succ]
        refine AnyT.take (i := 11) (cs := [22]) rfl (by kernel_rfl) (by kernel_rfl) (by kernel_rfl) (by kernel_rfl) rfl (by kernel_rfl) (fun _ _ _ h => h) hH (by kernel_rfl) (by intro w hSw; (try dsimp only at hSw); go_simp; (try with_reducible rfl)) ?_
        try simp only [Act.put, List.setIfInBounds_toArray, List.set_cons_zero, List.set_cons_succ]
        refine AnyT.take (i := 12) (cs := [22]) rfl (by kernel_rfl) (by kernel_rfl) (by kernel_rfl) (by kernel_rfl) rfl (by kernel_rfl) (fun _ _ _ h => h) hH (by kernel_rfl) (by intro w hSw; (try dsimp only at hSw); go_simp; (try with_reducible rfl)) ?_
        try simp only [Act.put, List.setIfInBounds_toArray, List.set_cons_zero, List.set_cons_succ]
        refine AnyT.take (i := 13) (cs := [22]) rfl (by kernel_rfl) (by kernel_rfl) (by kernel_rfl) (by kernel_rfl) rfl (by kernel_rfl) (fun _ _ _ h => h) hH (by kernel_rfl) (by intro w hSw; (try dsimp only at hSw); go_simp; (try with_reducible rfl)) ?_
        try simp only [Act.put, List.setIfInBounds_toArray, List.set_cons_zero, List.set_cons_succ]
        refine AnyT.take (i := 14) (cs := [22]) rfl (by kernel_rfl) (by kernel_rfl) (by kernel_rfl) (by kernel_rfl) rfl (by kernel_rfl) (fun _ _ _ h => h) hH (by kernel_rfl) (by intro w hSw; (try dsimp only at hSw); go_simp; (try with_reducible rfl)) ?_
        try simp only [Act.put, List.setIfInBounds_toArray, List.set_cons_zero, List.set_cons_succ]
        refine AnyT.take (i := 15) (cs := [22]) rfl (by kernel_rfl) (by kernel_rfl) (by kernel_rfl) (by kernel_rfl) rfl (by kernel_rfl) (fun _ _ _ h => h) hH (by kernel_rfl) (by intro w hSw; (try dsimp only at hSw); go_simp; (try with_reducible rfl)) ?_
        try simp only [Act.put, List.setIfInBounds_toArray, List.set_cons_zero, List.set_cons_succ]
        refine AnyT.take (i := 16) (cs := [22]) rfl (by kernel_rfl) (by kernel_rfl) (by kernel_rfl) (by kernel_rfl) rfl (by kernel_rfl) (fun _ _ _ h => h) hH (by kernel_rfl) (by intro w hSw; (try dsimp only at hSw); go_simp; (try with_reducible rfl)) ?_
        try simp only [Act.put, List.setIfInBounds_toArray, List.set_cons_zero, List.set_cons_succ]
        refine AnyT.take (i := 17) (cs := [22]) rfl (by kernel_rfl) (by kernel_rfl) (by kernel_rfl) (by kernel_rfl) rfl (by kernel_rfl) (fun _ _ _ h => h) hH (by kernel_rfl) (by intro w hSw; (try dsimp only at hSw); go_simp; (try with_reducible rfl)) ?_
        try simp only [Act.put, List.setIfInBounds_toArray, List.set_cons_zero, List.set_cons_succ]
        refine AnyT.take (i := 18) (cs := [22]) rfl (by kernel_rfl) (by kernel_rfl) (by kernel_rfl) (by kernel_rfl) rfl (by kernel_rfl) (fun _ _ _ h => h) hH (by kernel_rfl) (by intro w hSw; (try dsimp only at hSw); go_simp; (try with_reducible rfl)) ?_
        try simp only [Act.put, List.setIfInBounds_toArray, List.set_cons_zero, List.set_cons_succ]
        refine AnyT.take (i := 19) (cs := [22]) rfl (by kernel_rfl) (by kernel_rfl) (by kernel_rfl) (by kernel_rfl) rfl (by kernel_rfl) (fun _ _ _ h => h) hH (by kernel_rfl) (by intro w hSw; (try dsimp only at hSw); go_simp; (try with_reducible rfl)) ?_
        try simp only [Act.put, List.setIfInBounds_toArray, List.set_cons_zero, List.set_cons_succ]
        refine AnyT.one (i := 20) (by kernel_rfl) rfl (fun K hK => ?_)
        go_simp
        go_at_call 61
        (with_reducible refine (debugFits_s (i := i1) (d := d1) (Ty.up _ hS1 hgr1) (Ty.up _ hT1 hgr1) hst1).mono ?_); rw [HF1.out]
        rintro e v2 ⟨rfl, hg2⟩
        have hgr2 := hgr1.trans hg2
        have y0 := grow_cell hg2 y0
        have y1 := grow_cell hg2 y1
        have y2 := grow_cell hg2 y2
        have y3 := grow_cell hg2 y3
        have m00 := grow_cell hg2 m00
        have m01 := grow_cell hg2 m01
        have n00 := grow_cell hg2 n00
        have n01 := grow_cell hg2 n01
        have n02 := grow_cell hg2 n02
        have n03 := grow_cell hg2 n03
        have n04 := grow_cell hg2 n04
        have m10 := grow_cell hg2 m10
        have m11 := grow_cell hg2 m11
        have n10 := grow_cell hg2 n10
        have n11 := grow_cell hg2 n11
        have n12 := grow_cell hg2 n12
        have n13 := grow_cell hg2 n13
        have n14 := grow_cell hg2 n14
        refine hK.out _ _ (And.intro y0 (And.intro y1 (And.intro y2 (And.intro y3 (And.intro m00 (And.intro m01 (And.intro n00 (And.intro n01 (And.intro n02 (And.intro n03 (And.intro n04 (And.intro m10 (And.intro m11 (And.intro n10 (And.intro n11 (And.intro n12 (And.intro n13 n14))))))))))))))))) (fun hI => ?_)
        clear hK hH
        have hH := hI
        try simp only [Act.put, List.setIfInBounds_toArray, List.set_cons_zero, List.set_cons_succ]
        refine AnyT.take (i := 21) (cs := [22]) rfl (by kernel_rfl) (by kernel_rfl) (by kernel_rfl) (by kernel_rfl) rfl (by kernel_rfl) (fun _ _ _ h => h) hH (by kernel_rfl) (by intro w hSw; (try dsimp only at hSw); go_simp; (try with_reducible rfl)) ?_
        try simp only [Act.put, List.setIfInBounds_toArray, List.set_cons_zero, List.set_cons_succ]
        refine AnyT.last (by kernel_rfl) rfl (by kernel_rfl) (fun K hK => ?_)
        go_simp
        refine hK.out _ _ ?_
        clear hK
        try simp only [Act.put, List.setIfInBounds_toArray, List.set_cons_zero, List.set_cons_succ]
        go_wp2_with (fail)
        go_ret
        exact ⟨ret_bool (by rw [HR.out]), hG0.trans hgr2⟩
end Go.Proofs.YtgodpjnbhmahaaaGreat
