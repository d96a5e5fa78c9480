/-
  The law FnExactStackOf answers true for every input: the program and the reference compute the same; the arguments stay; the result is of its own memory. No condition.
-/
import Derived.Test.YtgodpjnbhmahaaaGreatAllGLawStackOf
import Derived.Test.YtgodpjnbhmahaaaGreatRows
import Derived.Test.YtgodpjnbhmahaaaGreatFactsStackOf
import Derived.ShutString
set_option linter.unusedVariables false
set_option linter.unusedSimpArgs false
namespace Go.Proofs.YtgodpjnbhmahaaaGreat
open Go.RowKit
theorem unwTo_eq {v : DView} {x sp fp : Int} {kk : Nat} (h : sp = v.Sp + (kk : Int)) : unwTo v x sp fp = ⟨x, v.Sp + (kk : Int), fp, v.Words.drop kk⟩ := by
  subst h
  unfold unwTo
  rw [show (v.Sp + (kk : Int) - v.Sp).toNat = kk from by omega]
set_option maxRecDepth 100000 in
set_option maxHeartbeats 6000000 in
theorem unwStep_s {s : DSpace} {R0 R1 : List DRule} {v : DView} {inner : Bool} {w : World} {A0 A1 A2 A B0 B1 : Option Addr} {c0 c1 c2 c d0 d1 gr ov cr : Nat} (hS : SpaceR s w A0 A1 A2 c0 c1 c2) (hR : RulesR w gr ov R0 R1 B0 B1 d0 d1) (hv : viewIn v) (h3 : (intT.sl 3).R w w.heap.size [.slice A v.Words.length c] v.Words) :
    Calls Tryz.prog 183 #[.agg #[.slice A0 s.Images.length c0, .slice A1 s.Bases.length c1, .slice A2 s.Entries.length c2], .slice (some ⟨gr, ov, none⟩) 2 cr, .agg #[.int .i64 v.Pc, .int .i64 v.Sp, .int .i64 v.Fp, .slice A v.Words.length c], .bool inner] w (RetStep (unwStep s R0 R1 v inner) w) := by
  have hs := hv.sp
  have HV := Lib.hid hv.1
  have HQ := Lib.hid hS.ok
  have hl : v.Words.length ≤ 1099511627776 := by omega
  have hgr : Gro w ((((w.alloc (.cells #[.slice A0 s.Images.length c0, .slice A1 s.Bases.length c1, .slice A2 s.Entries.length c2] 28)).alloc (.cells #[.int .i64 v.Pc, .int .i64 v.Sp, .int .i64 v.Fp, .slice A v.Words.length c] 49)).alloc (.cells #[.int .i64 0, .int .i64 0, .int .i64 0, .slice none 0 0] 49)).alloc (.cells #[.int .i64 0, .int .i64 0, .int .i64 0, .slice none 0 0] 49)) := gG
  have e0 : ((((w.alloc (.cells #[.slice A0 s.Images.length c0, .slice A1 s.Bases.length c1, .slice A2 s.Entries.length c2] 28)).alloc (.cells #[.int .i64 v.Pc, .int .i64 v.Sp, .int .i64 v.Fp, .slice A v.Words.length c] 49)).alloc (.cells #[.int .i64 0, .int .i64 0, .int .i64 0, .slice none 0 0] 49)).alloc (.cells #[.int .i64 0, .int .i64 0, .int .i64 0, .slice none 0 0] 49)).heap[w.heap.size]? = some (.cells #[.slice A0 s.Images.length c0, .slice A1 s.Bases.length c1, .slice A2 s.Entries.length c2] 28 (0, 0)) := grow_blk (heap_alloc_new w _) gF
  have e1 : ((((w.alloc (.cells #[.slice A0 s.Images.length c0, .slice A1 s.Bases.length c1, .slice A2 s.Entries.length c2] 28)).alloc (.cells #[.int .i64 v.Pc, .int .i64 v.Sp, .int .i64 v.Fp, .slice A v.Words.length c] 49)).alloc (.cells #[.int .i64 0, .int .i64 0, .int .i64 0, .slice none 0 0] 49)).alloc (.cells #[.int .i64 0, .int .i64 0, .int .i64 0, .slice none 0 0] 49)).heap[w.heap.size + 1]? = some (.cells #[.int .i64 v.Pc, .int .i64 v.Sp, .int .i64 v.Fp, .slice A v.Words.length c] 49 (0, 0)) := by have h := heap_alloc_new (w.alloc (.cells #[.slice A0 s.Images.length c0, .slice A1 s.Bases.length c1, .slice A2 s.Entries.length c2] 28)) (.cells #[.int .i64 v.Pc, .int .i64 v.Sp, .int .i64 v.Fp, .slice A v.Words.length c] 49); rw [World.size_alloc] at h; exact grow_blk h gF
  have er : ((((w.alloc (.cells #[.slice A0 s.Images.length c0, .slice A1 s.Bases.length c1, .slice A2 s.Entries.length c2] 28)).alloc (.cells #[.int .i64 v.Pc, .int .i64 v.Sp, .int .i64 v.Fp, .slice A v.Words.length c] 49)).alloc (.cells #[.int .i64 0, .int .i64 0, .int .i64 0, .slice none 0 0] 49)).alloc (.cells #[.int .i64 0, .int .i64 0, .int .i64 0, .slice none 0 0] 49)).heap[w.heap.size + 1 + 1]? = some (.cells #[.int .i64 0, .int .i64 0, .int .i64 0, .slice none 0 0] 49 (0, 0)) := by have h := heap_alloc_new ((w.alloc (.cells #[.slice A0 s.Images.length c0, .slice A1 s.Bases.length c1, .slice A2 s.Entries.length c2] 28)).alloc (.cells #[.int .i64 v.Pc, .int .i64 v.Sp, .int .i64 v.Fp, .slice A v.Words.length c] 49)) (.cells #[.int .i64 0, .int .i64 0, .int .i64 0, .slice none 0 0] 49); rw [World.size_alloc, World.size_alloc] at h; exact grow_blk h gF
  have en : ((((w.alloc (.cells #[.slice A0 s.Images.length c0, .slice A1 s.Bases.length c1, .slice A2 s.Entries.length c2] 28)).alloc (.cells #[.int .i64 v.Pc, .int .i64 v.Sp, .int .i64 v.Fp, .slice A v.Words.length c] 49)).alloc (.cells #[.int .i64 0, .int .i64 0, .int .i64 0, .slice none 0 0] 49)).alloc (.cells #[.int .i64 0, .int .i64 0, .int .i64 0, .slice none 0 0] 49)).heap[w.heap.size + 1 + 1 + 1]? = some (.cells #[.int .i64 0, .int .i64 0, .int .i64 0, .slice none 0 0] 49 (0, 0)) := by have h := heap_alloc_new (((w.alloc (.cells #[.slice A0 s.Images.length c0, .slice A1 s.Bases.length c1, .slice A2 s.Entries.length c2] 28)).alloc (.cells #[.int .i64 v.Pc, .int .i64 v.Sp, .int .i64 v.Fp, .slice A v.Words.length c] 49)).alloc (.cells #[.int .i64 0, .int .i64 0, .int .i64 0, .slice none 0 0] 49)) (.cells #[.int .i64 0, .int .i64 0, .int .i64 0, .slice none 0 0] 49); rw [World.size_alloc, World.size_alloc, World.size_alloc] at h; exact h
  have HS := Lib.hid hS
  have HR := Lib.hid hR
  clear hS hR
  go_enter Tryz.func183, Tryz.ntmps183
  go_upto_region 2 with (fail)
  obtain ⟨g, hg0⟩ : ∃ g, w.heap.size = g := ⟨_, rfl⟩
  rw [hg0] at e0 e1 er en ⊢
  have hwg : w.heap.size ≤ g := by omega
  generalize ((((w.alloc (.cells #[.slice A0 s.Images.length c0, .slice A1 s.Bases.length c1, .slice A2 s.Entries.length c2] 28)).alloc (.cells #[.int .i64 v.Pc, .int .i64 v.Sp, .int .i64 v.Fp, .slice A v.Words.length c] 49)).alloc (.cells #[.int .i64 0, .int .i64 0, .int .i64 0, .slice none 0 0] 49)).alloc (.cells #[.int .i64 0, .int .i64 0, .int .i64 0, .slice none 0 0] 49)) = Y at hgr e0 e1 er en ⊢
  obtain ⟨y0, y1, y2, _⟩ := row3 e0
  obtain ⟨x0, x1, x2, x3, _⟩ := box4 e1
  obtain ⟨n0, n1, n2, n3, _⟩ := box4 en
  obtain ⟨b0, b1, b2, b3, bf⟩ := box4 er
  have HGY := Lib.hid (show g + 1 + 1 + 1 < Y.heap.size from (Array.getElem?_eq_some_iff.1 en).1)
  have hgrY : Gro Y Y := Gro.refl _
  clear e0 e1 en hg0
  cases inner with
  | true =>
    have HE : Hid ((if true = true then v.Pc else v.Pc - 1) = v.Pc) := Lib.hid rfl
    have he : I64 v.Pc := ⟨by have := hv.2.1.1; omega, by have := hv.2.1.2; omega⟩
    rcases loc_two HS.out.ok (v.Pc) with hloc | ⟨i, off, hi2, hloc, ho1, ho2⟩
    · have HL := Lib.hid hloc
      have HU := Lib.hid (unwStep_no (R0 := R0) (R1 := R1) (v := v) (inner := true) (by rw [HE.out]; exact hloc))
      clear hloc
      go_wp2_with (first | (go_at_call 178; (with_reducible refine (viewOk_s v _ _ _ hl).mono ?_); rw [HV.out]; rintro e v1 ⟨rfl, hg⟩; have y0 := grow_cell hg y0; have y1 := grow_cell hg y1; have y2 := grow_cell hg y2; have x0 := grow_cell hg x0; have x1 := grow_cell hg x1; have x2 := grow_cell hg x2; have x3 := grow_cell hg x3; have n0 := grow_cell hg n0; have n1 := grow_cell hg n1; have n2 := grow_cell hg n2; have n3 := grow_cell hg n3; have er := grow_blk er hg; obtain ⟨b0, b1, b2, b3, bf⟩ := box4 er; have hgr := hgr.trans hg; have hgrY := hgrY.trans hg; have hbv : g + 1 + 1 + 1 < v1.heap.size := Nat.lt_of_lt_of_le HGY.out hgrY.size; have hbv1 : g + 1 < v1.heap.size := (by omega); have hbv2 : g + 1 + 1 < v1.heap.size := (by omega); have hbv0 : g < v1.heap.size := (by omega)) | (go_at_call 284; (with_reducible refine (locSS (s := s) (e := v.Pc) (HS.out.up hgr) he).mono ?_); rw [HL.out]; rintro e v1 ⟨rfl, hg⟩; have y0 := grow_cell hg y0; have y1 := grow_cell hg y1; have y2 := grow_cell hg y2; have x0 := grow_cell hg x0; have x1 := grow_cell hg x1; have x2 := grow_cell hg x2; have x3 := grow_cell hg x3; have n0 := grow_cell hg n0; have n1 := grow_cell hg n1; have n2 := grow_cell hg n2; have n3 := grow_cell hg n3; have er := grow_blk er hg; obtain ⟨b0, b1, b2, b3, bf⟩ := box4 er; have hgr := hgr.trans hg; have hgrY := hgrY.trans hg; have hbv : g + 1 + 1 + 1 < v1.heap.size := Nat.lt_of_lt_of_le HGY.out hgrY.size; have hbv1 : g + 1 < v1.heap.size := (by omega); have hbv2 : g + 1 + 1 < v1.heap.size := (by omega); have hbv0 : g < v1.heap.size := (by omega)))
      have h2 := set4 er (.int .i64 0) (.int .i64 0) (.int .i64 0) (.slice none 0 0)
      obtain ⟨t0, t1, t2, t3, _⟩ := box4 h2.1
      exact bodyPost_ret (v := .tuple #[.agg #[.int .i64 0, .int .i64 0, .int .i64 0, .slice none 0 0], .bool false]) (by simp [results, Tryz.results183, go_sem, t0, t1, t2, t3]) rfl (RetStep.no HU.out (h2.2.gro hgr (fun b hb => by simp at hb; omega)))
    · have HL := Lib.hid hloc
      obtain ⟨Bi, di, Ri, kc, hxi, hri⟩ := HR.out.at hi2
      have HXi := Lib.hid hxi
      have HRI := Lib.hid hri
      have ho : I64 off := ⟨by omega, by omega⟩
      have kc := grow_cell hgr kc
      have hin : ¬ ((i : Int) < 0) := by omega
      have hi0 : (0 : Int) ≤ (i : Int) := by omega
      have hi22 : (i : Int) < 2 := by omega
      clear hloc hxi hri
      rcases findRule_res Ri off with hfi | ⟨j, r, hj, hdp, hfi⟩
      · have HF := Lib.hid hfi
        have HU := Lib.hid (unwStep_far (R0 := R0) (R1 := R1) (v := v) (inner := true) (i := i) (off := off) (by rw [HE.out]; exact HL.out) (by rw [HRI.out]; exact hfi))
        clear hfi
        go_wp2_with (first | (go_at_call 178; (with_reducible refine (viewOk_s v _ _ _ hl).mono ?_); rw [HV.out]; rintro e v1 ⟨rfl, hg⟩; have kc := grow_cell hg kc; have y0 := grow_cell hg y0; have y1 := grow_cell hg y1; have y2 := grow_cell hg y2; have x0 := grow_cell hg x0; have x1 := grow_cell hg x1; have x2 := grow_cell hg x2; have x3 := grow_cell hg x3; have n0 := grow_cell hg n0; have n1 := grow_cell hg n1; have n2 := grow_cell hg n2; have n3 := grow_cell hg n3; have er := grow_blk er hg; obtain ⟨b0, b1, b2, b3, bf⟩ := box4 er; have hgr := hgr.trans hg; have hgrY := hgrY.trans hg; have hbv : g + 1 + 1 + 1 < v1.heap.size := Nat.lt_of_lt_of_le HGY.out hgrY.size; have hbv1 : g + 1 < v1.heap.size := (by omega); have hbv2 : g + 1 + 1 < v1.heap.size := (by omega); have hbv0 : g < v1.heap.size := (by omega)) | (go_at_call 284; (with_reducible refine (locSS (s := s) (e := v.Pc) (HS.out.up hgr) he).mono ?_); rw [HL.out]; rintro e v1 ⟨rfl, hg⟩; have kc := grow_cell hg kc; have y0 := grow_cell hg y0; have y1 := grow_cell hg y1; have y2 := grow_cell hg y2; have x0 := grow_cell hg x0; have x1 := grow_cell hg x1; have x2 := grow_cell hg x2; have x3 := grow_cell hg x3; have n0 := grow_cell hg n0; have n1 := grow_cell hg n1; have n2 := grow_cell hg n2; have n3 := grow_cell hg n3; have er := grow_blk er hg; obtain ⟨b0, b1, b2, b3, bf⟩ := box4 er; have hgr := hgr.trans hg; have hgrY := hgrY.trans hg; have hbv : g + 1 + 1 + 1 < v1.heap.size := Nat.lt_of_lt_of_le HGY.out hgrY.size; have hbv1 : g + 1 < v1.heap.size := (by omega); have hbv2 : g + 1 + 1 < v1.heap.size := (by omega); have hbv0 : g < v1.heap.size := (by omega)) | (go_at_call 285; (with_reducible refine (findRule_s (rs := Ri) (off := off) (Ty.up _ HXi.out hgr) ho).mono ?_); rw [HF.out]; rintro e v1 ⟨rfl, hg⟩; have kc := grow_cell hg kc; have y0 := grow_cell hg y0; have y1 := grow_cell hg y1; have y2 := grow_cell hg y2; have x0 := grow_cell hg x0; have x1 := grow_cell hg x1; have x2 := grow_cell hg x2; have x3 := grow_cell hg x3; have n0 := grow_cell hg n0; have n1 := grow_cell hg n1; have n2 := grow_cell hg n2; have n3 := grow_cell hg n3; have er := grow_blk er hg; obtain ⟨b0, b1, b2, b3, bf⟩ := box4 er; have hgr := hgr.trans hg; have hgrY := hgrY.trans hg; have hbv : g + 1 + 1 + 1 < v1.heap.size := Nat.lt_of_lt_of_le HGY.out hgrY.size; have hbv1 : g + 1 < v1.heap.size := (by omega); have hbv2 : g + 1 + 1 < v1.heap.size := (by omega); have hbv0 : g < v1.heap.size := (by omega)))
        have h2 := set4 er (.int .i64 0) (.int .i64 0) (.int .i64 0) (.slice none 0 0)
        obtain ⟨t0, t1, t2, t3, _⟩ := box4 h2.1
        exact bodyPost_ret (v := .tuple #[.agg #[.int .i64 0, .int .i64 0, .int .i64 0, .slice none 0 0], .bool false]) (by simp [results, Tryz.results183, go_sem, t0, t1, t2, t3]) rfl (RetStep.no HU.out (h2.2.gro hgr (fun b hb => by simp at hb; omega)))
      · have HF := Lib.hid hfi
        have HU0 := Lib.hid (unwStep_by (R0 := R0) (R1 := R1) (v := v) (inner := true) (i := i) (off := off) (j := j) (r := r) (by rw [HE.out]; exact HL.out) (by rw [HRI.out]; exact hfi) (by rw [HRI.out]; exact hj))
        clear hfi
        obtain ⟨gk, ok, r', hAk, hgk, hrk, m0, m1, m2, m3, _, _, hrd⟩ := atRule HXi.out (k := j) (List.getElem?_eq_some_iff.1 hj).1
        obtain rfl : r' = r := by rw [hj] at hrk; injection hrk with hrk; exact hrk.symm
        subst hAk
        have hjl : (j : Int) < (Ri.length : Int) := by have := (List.getElem?_eq_some_iff.1 hj).1; omega
        have hdep := btw_iff.1 hdp
        have hd64 : IntKind.i64.wrap (v.Sp + r'.Depth) = v.Sp + r'.Depth := IntWalk.i64_in _ ⟨by omega, by omega⟩
        have hf64 : IntKind.i64.wrap (v.Fp + 1) = v.Fp + 1 := IntWalk.i64_in _ ⟨by have := hv.2.2.1.1; omega, by have := hv.2.2.1.2; omega⟩
        have hjn : ¬ ((j : Int) < 0) := by omega
        have hj0 : (0 : Int) ≤ (j : Int) := by omega
        have m0 := grow_cell hgr m0
        have m1 := grow_cell hgr m1
        have m2 := grow_cell hgr m2
        have m3 := grow_cell hgr m3
        clear hj hrk hdp
        go_upto_region 13 with (first | (go_at_call 178; (with_reducible refine (viewOk_s v _ _ _ hl).mono ?_); rw [HV.out]; rintro e v1 ⟨rfl, hg⟩; have m0 := grow_cell hg m0; have m1 := grow_cell hg m1; have m2 := grow_cell hg m2; have m3 := grow_cell hg m3; have kc := grow_cell hg kc; have y0 := grow_cell hg y0; have y1 := grow_cell hg y1; have y2 := grow_cell hg y2; have x0 := grow_cell hg x0; have x1 := grow_cell hg x1; have x2 := grow_cell hg x2; have x3 := grow_cell hg x3; have n0 := grow_cell hg n0; have n1 := grow_cell hg n1; have n2 := grow_cell hg n2; have n3 := grow_cell hg n3; have er := grow_blk er hg; obtain ⟨b0, b1, b2, b3, bf⟩ := box4 er; have hgr := hgr.trans hg; have hgrY := hgrY.trans hg; have hbv : g + 1 + 1 + 1 < v1.heap.size := Nat.lt_of_lt_of_le HGY.out hgrY.size; have hbv1 : g + 1 < v1.heap.size := (by omega); have hbv2 : g + 1 + 1 < v1.heap.size := (by omega); have hbv0 : g < v1.heap.size := (by omega)) | (go_at_call 284; (with_reducible refine (locSS (s := s) (e := v.Pc) (HS.out.up hgr) he).mono ?_); rw [HL.out]; rintro e v1 ⟨rfl, hg⟩; have m0 := grow_cell hg m0; have m1 := grow_cell hg m1; have m2 := grow_cell hg m2; have m3 := grow_cell hg m3; have kc := grow_cell hg kc; have y0 := grow_cell hg y0; have y1 := grow_cell hg y1; have y2 := grow_cell hg y2; have x0 := grow_cell hg x0; have x1 := grow_cell hg x1; have x2 := grow_cell hg x2; have x3 := grow_cell hg x3; have n0 := grow_cell hg n0; have n1 := grow_cell hg n1; have n2 := grow_cell hg n2; have n3 := grow_cell hg n3; have er := grow_blk er hg; obtain ⟨b0, b1, b2, b3, bf⟩ := box4 er; have hgr := hgr.trans hg; have hgrY := hgrY.trans hg; have hbv : g + 1 + 1 + 1 < v1.heap.size := Nat.lt_of_lt_of_le HGY.out hgrY.size; have hbv1 : g + 1 < v1.heap.size := (by omega); have hbv2 : g + 1 + 1 < v1.heap.size := (by omega); have hbv0 : g < v1.heap.size := (by omega)) | (go_at_call 285; (with_reducible refine (findRule_s (rs := Ri) (off := off) (Ty.up _ HXi.out hgr) ho).mono ?_); rw [HF.out]; rintro e v1 ⟨rfl, hg⟩; have m0 := grow_cell hg m0; have m1 := grow_cell hg m1; have m2 := grow_cell hg m2; have m3 := grow_cell hg m3; have kc := grow_cell hg kc; have y0 := grow_cell hg y0; have y1 := grow_cell hg y1; have y2 := grow_cell hg y2; have x0 := grow_cell hg x0; have x1 := grow_cell hg x1; have x2 := grow_cell hg x2; have x3 := grow_cell hg x3; have n0 := grow_cell hg n0; have n1 := grow_cell hg n1; have n2 := grow_cell hg n2; have n3 := grow_cell hg n3; have er := grow_blk er hg; obtain ⟨b0, b1, b2, b3, bf⟩ := box4 er; have hgr := hgr.trans hg; have hgrY := hgrY.trans hg; have hbv : g + 1 + 1 + 1 < v1.heap.size := Nat.lt_of_lt_of_le HGY.out hgrY.size; have hbv1 : g + 1 < v1.heap.size := (by omega); have hbv2 : g + 1 + 1 < v1.heap.size := (by omega); have hbv0 : g < v1.heap.size := (by omega)))
        have hg : Gro v1 ((v1.alloc (.cells #[.int .i64 r'.Start, .int .i64 r'.End, .bool r'.Frame, .int .i64 r'.Depth] 254)).alloc (.cells #[.int .i64 0, .int .i64 0, .int .i64 v.Fp, .slice none 0 0] 49)) := gG
        have ez := heap_alloc_new v1 (.cells #[.int .i64 r'.Start, .int .i64 r'.End, .bool r'.Frame, .int .i64 r'.Depth] 254)
        have eo := heap_alloc_new (v1.alloc (.cells #[.int .i64 r'.Start, .int .i64 r'.End, .bool r'.Frame, .int .i64 r'.Depth] 254)) (.cells #[.int .i64 0, .int .i64 0, .int .i64 v.Fp, .slice none 0 0] 49)
        rw [World.size_alloc] at eo
        have ez := grow_blk ez (show Gro (v1.alloc (.cells #[.int .i64 r'.Start, .int .i64 r'.End, .bool r'.Frame, .int .i64 r'.Depth] 254)) ((v1.alloc (.cells #[.int .i64 r'.Start, .int .i64 r'.End, .bool r'.Frame, .int .i64 r'.Depth] 254)).alloc (.cells #[.int .i64 0, .int .i64 0, .int .i64 v.Fp, .slice none 0 0] 49)) from gG)
        have hzb : g + 1 + 1 + 1 < v1.heap.size := Nat.lt_of_lt_of_le HGY.out hgrY.size
        obtain ⟨gz, hgz⟩ : ∃ gz, v1.heap.size = gz := ⟨_, rfl⟩
        rw [hgz] at ez eo ⊢
        have hgzb : g + 1 + 1 + 1 < gz := by omega
        have kc := grow_cell hg kc
        have y0 := grow_cell hg y0
        have y1 := grow_cell hg y1
        have y2 := grow_cell hg y2
        have x0 := grow_cell hg x0
        have x1 := grow_cell hg x1
        have x2 := grow_cell hg x2
        have x3 := grow_cell hg x3
        have n0 := grow_cell hg n0
        have n1 := grow_cell hg n1
        have n2 := grow_cell hg n2
        have n3 := grow_cell hg n3
        have er := grow_blk er hg
        obtain ⟨b0, b1, b2, b3, bf⟩ := box4 er
        have hgr := hgr.trans hg; have hgrY := hgrY.trans hg
        clear hgrY
        generalize (v1.alloc (.cells #[.int .i64 r'.Start, .int .i64 r'.End, .bool r'.Frame, .int .i64 r'.Depth] 254)).alloc (.cells #[.int .i64 0, .int .i64 0, .int .i64 v.Fp, .slice none 0 0] 49) = Y2 at ez eo er kc y0 y1 y2 x0 x1 x2 x3 n0 n1 n2 n3 b0 b1 b2 b3 bf hgr ⊢
        obtain ⟨z0, z1, z2, z3, _⟩ := box4 ez
        obtain ⟨o0, o1, o2, o3, of⟩ := box4 eo
        obtain ⟨go, hgo⟩ : ∃ go, gz + 1 = go := ⟨_, rfl⟩
        rw [hgo] at eo o0 o1 o2 o3 of ⊢
        have hgoz : gz < go := by omega
        clear hg hgz hzb hgo
        cases hfr : r'.Frame with
        | false =>
          rw [hfr] at z2
          have HB := Lib.hid (unwBy_plain (v := v) hfr)
          go_upto_region 21 with (fail)
          rcases wordOf_cases v (v.Sp + r'.Depth) with ⟨_, pe⟩ | ⟨pj, px, p1, p2, p3, _, pe⟩
          · have Hp := Lib.hid pe
            have HU : Hid (unwStep s R0 R1 v true = none) := Lib.hid (HU0.out.trans (HB.out.trans (by rw [Hp.out]; rfl)))
            clear pe
            go_wp2_with (first | (go_at_call 286; (with_reducible refine (wordOf_s (v := v) (a := v.Sp + r'.Depth) hv (Ty.up _ h3 hgr)).mono ?_); rw [Hp.out]; rintro e v1 ⟨rfl, hg⟩; have y0 := grow_cell hg y0; have y1 := grow_cell hg y1; have y2 := grow_cell hg y2; have x0 := grow_cell hg x0; have x1 := grow_cell hg x1; have x2 := grow_cell hg x2; have x3 := grow_cell hg x3; have n0 := grow_cell hg n0; have n1 := grow_cell hg n1; have n2 := grow_cell hg n2; have n3 := grow_cell hg n3; have er := grow_blk er hg; have eo := grow_blk eo hg; obtain ⟨b0, b1, b2, b3, bf⟩ := box4 er; obtain ⟨o0, o1, o2, o3, of⟩ := box4 eo; have hgr  := hgr.trans hg))
            have h2 := set4 er (.int .i64 0) (.int .i64 0) (.int .i64 0) (.slice none 0 0)
            obtain ⟨t0, t1, t2, t3, _⟩ := box4 h2.1
            exact bodyPost_ret (v := .tuple #[.agg #[.int .i64 0, .int .i64 0, .int .i64 0, .slice none 0 0], .bool false]) (by simp [results, Tryz.results183, go_sem, t0, t1, t2, t3]) rfl (RetStep.no HU.out (h2.2.gro hgr (fun b hb => by simp at hb; omega)))
          · have Hp := Lib.hid pe
            have Hp1 := Lib.hid p1
            have HW := Lib.hid (show wordOf v (v.Sp + (pj : Int)) = some px from by rw [← Hp1.out]; exact Hp.out)
            rw [show v.Sp + r'.Depth = v.Sp + (pj : Int) from Hp1.out]
            obtain ⟨kk, hkk⟩ : ∃ kk, pj + 1 = kk := ⟨_, rfl⟩
            have HKK := Lib.hid hkk
            have hkl : kk ≤ v.Words.length := by omega
            have hsx : Small px := hv.2.2.2 _ (List.mem_of_getElem? p3)
            have hsf : Small v.Fp := hv.2.2.1
            have HU : Hid (unwStep s R0 R1 v true = some ⟨px, v.Sp + (kk : Int), v.Fp, v.Words.drop kk⟩) := Lib.hid ((HU0.out.trans (HB.out)).trans (by rw [Hp.out]; exact congrArg some (unwTo_eq (by have h1 := Hp1.out; have h2 := HKK.out; omega))))
            have hpl : IntKind.i64.wrap (v.Sp + (pj : Int) + 1) = v.Sp + (kk : Int) := by rw [show v.Sp + (pj : Int) + 1 = v.Sp + (kk : Int) from by omega]; exact IntWalk.i64_in _ ⟨by omega, by omega⟩
            have hpk : IntKind.i64.wrap (v.Sp + (kk : Int) - v.Sp) = (kk : Int) := by rw [show v.Sp + (kk : Int) - v.Sp = (kk : Int) from by omega]; exact IntWalk.i64_in _ ⟨by omega, by omega⟩
            have hk0 : IntKind.i64.wrap (kk : Int) = (kk : Int) := IntWalk.i64_in _ ⟨by omega, by omega⟩
            obtain ⟨_, _, hx', hxl, hcm⟩ := sl_at h3
            injection hx' with q1 q2 q3
            subst q1 q3
            clear q2
            obtain ⟨B9, hsl, hd⟩ := run_from (P := Tryz.prog) elInt h3 (k := kk) hkl
            obtain ⟨L, hL⟩ : ∃ L, v.Words.length - kk = L := ⟨_, rfl⟩
            rw [hL] at hsl hd
            obtain ⟨ds, hds⟩ : ∃ ds, v.Words.drop kk = ds := ⟨_, rfl⟩
            have hln : L = ds.length := by rw [← hds, List.length_drop]; exact hL.symm
            rw [hds] at HU hd
            have HLN := Lib.hid hln
            have hL2 : L ≤ 1200 := by omega
            clear hL hds hln hkk p1 p3 pe
            go_upto_region 26 with (first | (go_at_call 286; (with_reducible refine (wordOf_s (v := v) (a := (v.Sp + (pj : Int))) hv (Ty.up _ h3 hgr)).mono ?_); rw [HW.out]; rintro e v1 ⟨rfl, hg⟩; have y0 := grow_cell hg y0; have y1 := grow_cell hg y1; have y2 := grow_cell hg y2; have x0 := grow_cell hg x0; have x1 := grow_cell hg x1; have x2 := grow_cell hg x2; have x3 := grow_cell hg x3; have n0 := grow_cell hg n0; have n1 := grow_cell hg n1; have n2 := grow_cell hg n2; have n3 := grow_cell hg n3; have er := grow_blk er hg; have eo := grow_blk eo hg; obtain ⟨b0, b1, b2, b3, bf⟩ := box4 er; obtain ⟨o0, o1, o2, o3, of⟩ := box4 eo; have hgr  := hgr.trans hg))
            have ho2 : OnlyS [go] v1 ((v1.setCell ⟨go, 0, none⟩ (.int .i64 px)).setCell ⟨go, 1, none⟩ (.int .i64 (v.Sp + (kk : Int)))) := ((OnlyS.refl _ _).setCell (p := ⟨go, 0, none⟩) (by simp) _).setCell (p := ⟨go, 1, none⟩) (by simp) _
            have eo2 := heap_setCell_at (heap_setCell_at eo 0 (.int .i64 px)) 1 (.int .i64 (v.Sp + (kk : Int)))
            simp only [List.setIfInBounds_toArray, List.set_cons_zero, List.set_cons_succ] at eo2
            have hgo1 : g + 1 ≠ go := by omega
            have hgo2 : g + 1 + 1 ≠ go := by omega
            have x0 := keep_thru x0 (Gro.refl _) ho2 (by simpa using hgo1)
            have x1 := keep_thru x1 (Gro.refl _) ho2 (by simpa using hgo1)
            have x2 := keep_thru x2 (Gro.refl _) ho2 (by simpa using hgo1)
            have x3 := keep_thru x3 (Gro.refl _) ho2 (by simpa using hgo1)
            have er := frz_thru er (Gro.refl _) ho2 (by simpa using hgo2)
            have hgr := ho2.gro hgr (fun b hb => by simp at hb; omega)
            generalize (v1.setCell ⟨go, 0, none⟩ (.int .i64 px)).setCell ⟨go, 1, none⟩ (.int .i64 (v.Sp + (kk : Int))) = Y4 at ho2 eo2 x0 x1 x2 x3 er hgr ⊢
            obtain ⟨b0, b1, b2, b3, bf⟩ := box4 er
            obtain ⟨o0, o1, o2, o3, of⟩ := box4 eo2
            have hgoY : go < Y4.heap.size := (Array.getElem?_eq_some_iff.1 eo2).1
            have hgrY : g + 1 + 1 < Y4.heap.size := (Array.getElem?_eq_some_iff.1 er).1
            have hgY1 : g + 1 < Y4.heap.size := by omega
            have hgne : g + 1 + 1 ≠ Y4.heap.size := by omega
            have hgne1 : g + 1 ≠ Y4.heap.size := by omega
            have hgne2 : go ≠ Y4.heap.size := by omega
            clear ho2 eo
            go_wp2_with (first | (refine wpList_append_hasl (L := L) rfl (.tmp 109) (.tmp 117) elInt flat_int (S := [Y4.heap.size]) (Has.emp intT (heap_alloc_new _ _)) (ys := ds) (Ty.up _ hd (hgr.trans gF)) rfl rfl rfl (Nat.zero_add _).symm (by omega) (by omega) ?_; intro A7 c7 W7 S7 hon hH7 hS7; have er := frz_thru er (W := Y4.alloc _) gF hon (by simpa using hgne); have eo2 := frz_thru eo2 (W := Y4.alloc _) gF hon (by simpa using hgne2); have x1 := keep_thru x1 (W := Y4.alloc _) gF hon (by simpa using hgne1); obtain ⟨b0, b1, b2, b3, bf⟩ := box4 er; obtain ⟨o0, o1, o2, o3, of⟩ := box4 eo2))
            have hGY : Gro Y4 W7 := hon.gro (W0 := Y4) gF (fun b hb => by simp at hb; omega)
            have hlo : ∀ b ∈ S7, Y4.heap.size ≤ b := fun b hb => by
              rcases hS7 b hb with h | h
              · simp at h; omega
              · simp at h; omega
            have ho5 : OnlyS [go] W7 (W7.setCell ⟨go, 3, none⟩ (.slice A7 L c7)) := (OnlyS.refl _ _).setCell (p := ⟨go, 3, none⟩) (by simp) _
            have er5 := frz_thru er (Gro.refl _) ho5 (by simpa using hgo2)
            have hH5 := hH7.keep ho5 (fun b hb hm => by have := hlo b hb; simp at hm; omega)
            have hg5 := ho5.gro (hgr.trans hGY) (fun b hb => by simp at hb; omega)
            have h2 := set4 er5 (.int .i64 px) (.int .i64 (v.Sp + (kk : Int))) (.int .i64 v.Fp) (.slice A7 L c7)
            obtain ⟨t0, t1, t2, t3, _⟩ := box4 h2.1
            have hH8 := hH5.keep h2.2 (fun b hb hm => by have := hlo b hb; simp at hm; omega)
            rw [List.nil_append] at hH8
            obtain rfl : L = ds.length := HLN.out
            have hwY := hgr.size
            have hI1 : I64 px := ⟨by have := hsx.1; omega, by have := hsx.2; omega⟩
            have hI2 : I64 (v.Sp + (kk : Int)) := ⟨by omega, by omega⟩
            have hI3 : I64 v.Fp := ⟨by have := hsf.1; omega, by have := hsf.2; omega⟩
            exact bodyPost_ret (v := .tuple #[.agg #[.int .i64 px, .int .i64 (v.Sp + (kk : Int)), .int .i64 v.Fp, .slice A7 ds.length c7], .bool true]) (by simp [results, Tryz.results183, go_sem, t0, t1, t2, t3]) rfl (RetStep.yes HU.out (tView_fresh (x := ⟨px, v.Sp + (kk : Int), v.Fp, ds⟩) hI1 hI2 hI3 (Has.fresh (w := w) hH8 (fun b hb => by have := hlo b hb; omega)).fre (Nat.le_refl _)) (h2.2.gro hg5 (fun b hb => by simp at hb; omega)))
        | true =>
          rw [hfr] at z2
          rcases wordOf_cases v (v.Fp) with ⟨_, pe⟩ | ⟨pj, px, p1, p2, p3, _, pe⟩
          · have Hp := Lib.hid pe
            have HU : Hid (unwStep s R0 R1 v true = none) := Lib.hid (HU0.out.trans (unwBy_no hfr Hp.out))
            clear pe
            go_wp2_with (first | (go_at_call 286; (with_reducible refine (wordOf_s (v := v) (a := v.Fp) hv (Ty.up _ h3 hgr)).mono ?_); rw [Hp.out]; rintro e v1 ⟨rfl, hg⟩; have y0 := grow_cell hg y0; have y1 := grow_cell hg y1; have y2 := grow_cell hg y2; have x0 := grow_cell hg x0; have x1 := grow_cell hg x1; have x2 := grow_cell hg x2; have x3 := grow_cell hg x3; have n0 := grow_cell hg n0; have n1 := grow_cell hg n1; have n2 := grow_cell hg n2; have n3 := grow_cell hg n3; have er := grow_blk er hg; have eo := grow_blk eo hg; obtain ⟨b0, b1, b2, b3, bf⟩ := box4 er; obtain ⟨o0, o1, o2, o3, of⟩ := box4 eo; have hgr  := hgr.trans hg))
            have h2 := set4 er (.int .i64 0) (.int .i64 0) (.int .i64 0) (.slice none 0 0)
            obtain ⟨t0, t1, t2, t3, _⟩ := box4 h2.1
            exact bodyPost_ret (v := .tuple #[.agg #[.int .i64 0, .int .i64 0, .int .i64 0, .slice none 0 0], .bool false]) (by simp [results, Tryz.results183, go_sem, t0, t1, t2, t3]) rfl (RetStep.no HU.out (h2.2.gro hgr (fun b hb => by simp at hb; omega)))
          · have Hp := Lib.hid pe
            have Hp1 := Lib.hid p1
            have HB := Lib.hid (unwBy_frame (v := v) hfr Hp.out)
            have hsp : Small px := hv.2.2.2 _ (List.mem_of_getElem? p3)
            clear p1 p3 pe
            go_upto_region 21 with (first | (go_at_call 286; (with_reducible refine (wordOf_s (v := v) (a := v.Fp) hv (Ty.up _ h3 hgr)).mono ?_); rw [Hp.out]; rintro e v1 ⟨rfl, hg⟩; have y0 := grow_cell hg y0; have y1 := grow_cell hg y1; have y2 := grow_cell hg y2; have x0 := grow_cell hg x0; have x1 := grow_cell hg x1; have x2 := grow_cell hg x2; have x3 := grow_cell hg x3; have n0 := grow_cell hg n0; have n1 := grow_cell hg n1; have n2 := grow_cell hg n2; have n3 := grow_cell hg n3; have er := grow_blk er hg; have eo := grow_blk eo hg; obtain ⟨b0, b1, b2, b3, bf⟩ := box4 er; obtain ⟨o0, o1, o2, o3, of⟩ := box4 eo; have hgr  := hgr.trans hg))
            have ho2 : OnlyS [go] v1 (v1.setCell ⟨go, 2, none⟩ (.int .i64 px)) := (OnlyS.refl _ _).setCell (p := ⟨go, 2, none⟩) (by simp) _
            have eo := heap_setCell_at eo 2 (.int .i64 px)
            simp only [List.setIfInBounds_toArray, List.set_cons_zero, List.set_cons_succ] at eo
            have y0 := keep_thru y0 (Gro.refl _) ho2 (by simp; omega)
            have y1 := keep_thru y1 (Gro.refl _) ho2 (by simp; omega)
            have y2 := keep_thru y2 (Gro.refl _) ho2 (by simp; omega)
            have x0 := keep_thru x0 (Gro.refl _) ho2 (by simp; omega)
            have x1 := keep_thru x1 (Gro.refl _) ho2 (by simp; omega)
            have x2 := keep_thru x2 (Gro.refl _) ho2 (by simp; omega)
            have x3 := keep_thru x3 (Gro.refl _) ho2 (by simp; omega)
            have n0 := keep_thru n0 (Gro.refl _) ho2 (by simp; omega)
            have n1 := keep_thru n1 (Gro.refl _) ho2 (by simp; omega)
            have n2 := keep_thru n2 (Gro.refl _) ho2 (by simp; omega)
            have n3 := keep_thru n3 (Gro.refl _) ho2 (by simp; omega)
            have er := frz_thru er (Gro.refl _) ho2 (by simp; omega)
            have hgr := ho2.gro hgr (fun b hb => by simp at hb; omega)
            generalize v1.setCell ⟨go, 2, none⟩ (.int .i64 px) = Y3 at ho2 eo y0 y1 y2 x0 x1 x2 x3 n0 n1 n2 n3 er hgr ⊢
            obtain ⟨b0, b1, b2, b3, bf⟩ := box4 er
            obtain ⟨o0, o1, o2, o3, of⟩ := box4 eo
            clear ho2
            rcases wordOf_cases v (v.Fp + 1) with ⟨_, qe⟩ | ⟨qj, qx, q1, q2, q3, _, qe⟩
            · have Hq := Lib.hid qe
              have HU : Hid (unwStep s R0 R1 v true = none) := Lib.hid (HU0.out.trans (HB.out.trans (by rw [Hq.out]; rfl)))
              clear qe
              go_wp2_with (first | (go_at_call 286; (with_reducible refine (wordOf_s (v := v) (a := v.Fp + 1) hv (Ty.up _ h3 hgr)).mono ?_); rw [Hq.out]; rintro e v1 ⟨rfl, hg⟩; have y0 := grow_cell hg y0; have y1 := grow_cell hg y1; have y2 := grow_cell hg y2; have x0 := grow_cell hg x0; have x1 := grow_cell hg x1; have x2 := grow_cell hg x2; have x3 := grow_cell hg x3; have n0 := grow_cell hg n0; have n1 := grow_cell hg n1; have n2 := grow_cell hg n2; have n3 := grow_cell hg n3; have er := grow_blk er hg; have eo := grow_blk eo hg; obtain ⟨b0, b1, b2, b3, bf⟩ := box4 er; obtain ⟨o0, o1, o2, o3, of⟩ := box4 eo; have hgr  := hgr.trans hg))
              have h2 := set4 er (.int .i64 0) (.int .i64 0) (.int .i64 0) (.slice none 0 0)
              obtain ⟨t0, t1, t2, t3, _⟩ := box4 h2.1
              exact bodyPost_ret (v := .tuple #[.agg #[.int .i64 0, .int .i64 0, .int .i64 0, .slice none 0 0], .bool false]) (by simp [results, Tryz.results183, go_sem, t0, t1, t2, t3]) rfl (RetStep.no HU.out (h2.2.gro hgr (fun b hb => by simp at hb; omega)))
            · have Hq := Lib.hid qe
              have Hq1 := Lib.hid q1
              have HW := Lib.hid (show wordOf v (v.Sp + (qj : Int)) = some qx from by rw [← Hq1.out]; exact Hq.out)
              rw [show v.Fp + 1 = v.Sp + (qj : Int) from Hq1.out]
              obtain ⟨kk, hkk⟩ : ∃ kk, qj + 1 = kk := ⟨_, rfl⟩
              have HKK := Lib.hid hkk
              have hkl : kk ≤ v.Words.length := by omega
              have hsx : Small qx := hv.2.2.2 _ (List.mem_of_getElem? q3)
              have hsf : Small px := hsp
              have HU : Hid (unwStep s R0 R1 v true = some ⟨qx, v.Sp + (kk : Int), px, v.Words.drop kk⟩) := Lib.hid ((HU0.out.trans (HB.out)).trans (by rw [Hq.out]; exact congrArg some (unwTo_eq (by have h1 := Hq1.out; have h2 := HKK.out; omega))))
              have hpl : IntKind.i64.wrap (v.Sp + (qj : Int) + 1) = v.Sp + (kk : Int) := by rw [show v.Sp + (qj : Int) + 1 = v.Sp + (kk : Int) from by omega]; exact IntWalk.i64_in _ ⟨by omega, by omega⟩
              have hpk : IntKind.i64.wrap (v.Sp + (kk : Int) - v.Sp) = (kk : Int) := by rw [show v.Sp + (kk : Int) - v.Sp = (kk : Int) from by omega]; exact IntWalk.i64_in _ ⟨by omega, by omega⟩
              have hk0 : IntKind.i64.wrap (kk : Int) = (kk : Int) := IntWalk.i64_in _ ⟨by omega, by omega⟩
              obtain ⟨_, _, hx', hxl, hcm⟩ := sl_at h3
              injection hx' with q1 q2 q3
              subst q1 q3
              clear q2
              obtain ⟨B9, hsl, hd⟩ := run_from (P := Tryz.prog) elInt h3 (k := kk) hkl
              obtain ⟨L, hL⟩ : ∃ L, v.Words.length - kk = L := ⟨_, rfl⟩
              rw [hL] at hsl hd
              obtain ⟨ds, hds⟩ : ∃ ds, v.Words.drop kk = ds := ⟨_, rfl⟩
              have hln : L = ds.length := by rw [← hds, List.length_drop]; exact hL.symm
              rw [hds] at HU hd
              have HLN := Lib.hid hln
              have hL2 : L ≤ 1200 := by omega
              clear hL hds hln hkk q1 q3 qe
              go_upto_region 26 with (first | (go_at_call 286; (with_reducible refine (wordOf_s (v := v) (a := (v.Sp + (qj : Int))) hv (Ty.up _ h3 hgr)).mono ?_); rw [HW.out]; rintro e v1 ⟨rfl, hg⟩; have y0 := grow_cell hg y0; have y1 := grow_cell hg y1; have y2 := grow_cell hg y2; have x0 := grow_cell hg x0; have x1 := grow_cell hg x1; have x2 := grow_cell hg x2; have x3 := grow_cell hg x3; have n0 := grow_cell hg n0; have n1 := grow_cell hg n1; have n2 := grow_cell hg n2; have n3 := grow_cell hg n3; have er := grow_blk er hg; have eo := grow_blk eo hg; obtain ⟨b0, b1, b2, b3, bf⟩ := box4 er; obtain ⟨o0, o1, o2, o3, of⟩ := box4 eo; have hgr  := hgr.trans hg))
              have ho2 : OnlyS [go] v1 ((v1.setCell ⟨go, 0, none⟩ (.int .i64 qx)).setCell ⟨go, 1, none⟩ (.int .i64 (v.Sp + (kk : Int)))) := ((OnlyS.refl _ _).setCell (p := ⟨go, 0, none⟩) (by simp) _).setCell (p := ⟨go, 1, none⟩) (by simp) _
              have eo2 := heap_setCell_at (heap_setCell_at eo 0 (.int .i64 qx)) 1 (.int .i64 (v.Sp + (kk : Int)))
              simp only [List.setIfInBounds_toArray, List.set_cons_zero, List.set_cons_succ] at eo2
              have hgo1 : g + 1 ≠ go := by omega
              have hgo2 : g + 1 + 1 ≠ go := by omega
              have x0 := keep_thru x0 (Gro.refl _) ho2 (by simpa using hgo1)
              have x1 := keep_thru x1 (Gro.refl _) ho2 (by simpa using hgo1)
              have x2 := keep_thru x2 (Gro.refl _) ho2 (by simpa using hgo1)
              have x3 := keep_thru x3 (Gro.refl _) ho2 (by simpa using hgo1)
              have er := frz_thru er (Gro.refl _) ho2 (by simpa using hgo2)
              have hgr := ho2.gro hgr (fun b hb => by simp at hb; omega)
              generalize (v1.setCell ⟨go, 0, none⟩ (.int .i64 qx)).setCell ⟨go, 1, none⟩ (.int .i64 (v.Sp + (kk : Int))) = Y4 at ho2 eo2 x0 x1 x2 x3 er hgr ⊢
              obtain ⟨b0, b1, b2, b3, bf⟩ := box4 er
              obtain ⟨o0, o1, o2, o3, of⟩ := box4 eo2
              have hgoY : go < Y4.heap.size := (Array.getElem?_eq_some_iff.1 eo2).1
              have hgrY : g + 1 + 1 < Y4.heap.size := (Array.getElem?_eq_some_iff.1 er).1
              have hgY1 : g + 1 < Y4.heap.size := by omega
              have hgne : g + 1 + 1 ≠ Y4.heap.size := by omega
              have hgne1 : g + 1 ≠ Y4.heap.size := by omega
              have hgne2 : go ≠ Y4.heap.size := by omega
              clear ho2 eo
              go_wp2_with (first | (refine wpList_append_hasl (L := L) rfl (.tmp 109) (.tmp 117) elInt flat_int (S := [Y4.heap.size]) (Has.emp intT (heap_alloc_new _ _)) (ys := ds) (Ty.up _ hd (hgr.trans gF)) rfl rfl rfl (Nat.zero_add _).symm (by omega) (by omega) ?_; intro A7 c7 W7 S7 hon hH7 hS7; have er := frz_thru er (W := Y4.alloc _) gF hon (by simpa using hgne); have eo2 := frz_thru eo2 (W := Y4.alloc _) gF hon (by simpa using hgne2); have x1 := keep_thru x1 (W := Y4.alloc _) gF hon (by simpa using hgne1); obtain ⟨b0, b1, b2, b3, bf⟩ := box4 er; obtain ⟨o0, o1, o2, o3, of⟩ := box4 eo2))
              have hGY : Gro Y4 W7 := hon.gro (W0 := Y4) gF (fun b hb => by simp at hb; omega)
              have hlo : ∀ b ∈ S7, Y4.heap.size ≤ b := fun b hb => by
                rcases hS7 b hb with h | h
                · simp at h; omega
                · simp at h; omega
              have ho5 : OnlyS [go] W7 (W7.setCell ⟨go, 3, none⟩ (.slice A7 L c7)) := (OnlyS.refl _ _).setCell (p := ⟨go, 3, none⟩) (by simp) _
              have er5 := frz_thru er (Gro.refl _) ho5 (by simpa using hgo2)
              have hH5 := hH7.keep ho5 (fun b hb hm => by have := hlo b hb; simp at hm; omega)
              have hg5 := ho5.gro (hgr.trans hGY) (fun b hb => by simp at hb; omega)
              have h2 := set4 er5 (.int .i64 qx) (.int .i64 (v.Sp + (kk : Int))) (.int .i64 px) (.slice A7 L c7)
              obtain ⟨t0, t1, t2, t3, _⟩ := box4 h2.1
              have hH8 := hH5.keep h2.2 (fun b hb hm => by have := hlo b hb; simp at hm; omega)
              rw [List.nil_append] at hH8
              obtain rfl : L = ds.length := HLN.out
              have hwY := hgr.size
              have hI1 : I64 qx := ⟨by have := hsx.1; omega, by have := hsx.2; omega⟩
              have hI2 : I64 (v.Sp + (kk : Int)) := ⟨by omega, by omega⟩
              have hI3 : I64 px := ⟨by have := hsf.1; omega, by have := hsf.2; omega⟩
              exact bodyPost_ret (v := .tuple #[.agg #[.int .i64 qx, .int .i64 (v.Sp + (kk : Int)), .int .i64 px, .slice A7 ds.length c7], .bool true]) (by simp [results, Tryz.results183, go_sem, t0, t1, t2, t3]) rfl (RetStep.yes HU.out (tView_fresh (x := ⟨qx, v.Sp + (kk : Int), px, ds⟩) hI1 hI2 hI3 (Has.fresh (w := w) hH8 (fun b hb => by have := hlo b hb; omega)).fre (Nat.le_refl _)) (h2.2.gro hg5 (fun b hb => by simp at hb; omega)))
  | false =>
    by_cases hpc : 0 < v.Pc
    · have HE : Hid ((if false = true then v.Pc else v.Pc - 1) = v.Pc - 1) := Lib.hid rfl
      have he : I64 (v.Pc - 1) := ⟨by have := hv.2.1.1; omega, by have := hv.2.1.2; omega⟩
      have hpw : IntKind.i64.wrap (v.Pc - 1) = v.Pc - 1 := IntWalk.i64_in _ he
      have hpb : decide (0 < v.Pc) = true := decide_eq_true hpc
      rcases loc_two HS.out.ok (v.Pc - 1) with hloc | ⟨i, off, hi2, hloc, ho1, ho2⟩
      · have HL := Lib.hid hloc
        have HU := Lib.hid (unwStep_no (R0 := R0) (R1 := R1) (v := v) (inner := false) (by rw [HE.out]; exact hloc))
        clear hloc
        go_wp2_with (first | (go_at_call 178; (with_reducible refine (viewOk_s v _ _ _ hl).mono ?_); rw [HV.out]; rintro e v1 ⟨rfl, hg⟩; have y0 := grow_cell hg y0; have y1 := grow_cell hg y1; have y2 := grow_cell hg y2; have x0 := grow_cell hg x0; have x1 := grow_cell hg x1; have x2 := grow_cell hg x2; have x3 := grow_cell hg x3; have n0 := grow_cell hg n0; have n1 := grow_cell hg n1; have n2 := grow_cell hg n2; have n3 := grow_cell hg n3; have er := grow_blk er hg; obtain ⟨b0, b1, b2, b3, bf⟩ := box4 er; have hgr := hgr.trans hg; have hgrY := hgrY.trans hg; have hbv : g + 1 + 1 + 1 < v1.heap.size := Nat.lt_of_lt_of_le HGY.out hgrY.size; have hbv1 : g + 1 < v1.heap.size := (by omega); have hbv2 : g + 1 + 1 < v1.heap.size := (by omega); have hbv0 : g < v1.heap.size := (by omega)) | (go_at_call 284; (with_reducible refine (locSS (s := s) (e := v.Pc - 1) (HS.out.up hgr) he).mono ?_); rw [HL.out]; rintro e v1 ⟨rfl, hg⟩; have y0 := grow_cell hg y0; have y1 := grow_cell hg y1; have y2 := grow_cell hg y2; have x0 := grow_cell hg x0; have x1 := grow_cell hg x1; have x2 := grow_cell hg x2; have x3 := grow_cell hg x3; have n0 := grow_cell hg n0; have n1 := grow_cell hg n1; have n2 := grow_cell hg n2; have n3 := grow_cell hg n3; have er := grow_blk er hg; obtain ⟨b0, b1, b2, b3, bf⟩ := box4 er; have hgr := hgr.trans hg; have hgrY := hgrY.trans hg; have hbv : g + 1 + 1 + 1 < v1.heap.size := Nat.lt_of_lt_of_le HGY.out hgrY.size; have hbv1 : g + 1 < v1.heap.size := (by omega); have hbv2 : g + 1 + 1 < v1.heap.size := (by omega); have hbv0 : g < v1.heap.size := (by omega)))
        have h2 := set4 er (.int .i64 0) (.int .i64 0) (.int .i64 0) (.slice none 0 0)
        obtain ⟨t0, t1, t2, t3, _⟩ := box4 h2.1
        exact bodyPost_ret (v := .tuple #[.agg #[.int .i64 0, .int .i64 0, .int .i64 0, .slice none 0 0], .bool false]) (by simp [results, Tryz.results183, go_sem, t0, t1, t2, t3]) rfl (RetStep.no HU.out (h2.2.gro hgr (fun b hb => by simp at hb; omega)))
      · have HL := Lib.hid hloc
        obtain ⟨Bi, di, Ri, kc, hxi, hri⟩ := HR.out.at hi2
        have HXi := Lib.hid hxi
        have HRI := Lib.hid hri
        have ho : I64 off := ⟨by omega, by omega⟩
        have kc := grow_cell hgr kc
        have hin : ¬ ((i : Int) < 0) := by omega
        have hi0 : (0 : Int) ≤ (i : Int) := by omega
        have hi22 : (i : Int) < 2 := by omega
        clear hloc hxi hri
        rcases findRule_res Ri off with hfi | ⟨j, r, hj, hdp, hfi⟩
        · have HF := Lib.hid hfi
          have HU := Lib.hid (unwStep_far (R0 := R0) (R1 := R1) (v := v) (inner := false) (i := i) (off := off) (by rw [HE.out]; exact HL.out) (by rw [HRI.out]; exact hfi))
          clear hfi
          go_wp2_with (first | (go_at_call 178; (with_reducible refine (viewOk_s v _ _ _ hl).mono ?_); rw [HV.out]; rintro e v1 ⟨rfl, hg⟩; have kc := grow_cell hg kc; have y0 := grow_cell hg y0; have y1 := grow_cell hg y1; have y2 := grow_cell hg y2; have x0 := grow_cell hg x0; have x1 := grow_cell hg x1; have x2 := grow_cell hg x2; have x3 := grow_cell hg x3; have n0 := grow_cell hg n0; have n1 := grow_cell hg n1; have n2 := grow_cell hg n2; have n3 := grow_cell hg n3; have er := grow_blk er hg; obtain ⟨b0, b1, b2, b3, bf⟩ := box4 er; have hgr := hgr.trans hg; have hgrY := hgrY.trans hg; have hbv : g + 1 + 1 + 1 < v1.heap.size := Nat.lt_of_lt_of_le HGY.out hgrY.size; have hbv1 : g + 1 < v1.heap.size := (by omega); have hbv2 : g + 1 + 1 < v1.heap.size := (by omega); have hbv0 : g < v1.heap.size := (by omega)) | (go_at_call 284; (with_reducible refine (locSS (s := s) (e := v.Pc - 1) (HS.out.up hgr) he).mono ?_); rw [HL.out]; rintro e v1 ⟨rfl, hg⟩; have kc := grow_cell hg kc; have y0 := grow_cell hg y0; have y1 := grow_cell hg y1; have y2 := grow_cell hg y2; have x0 := grow_cell hg x0; have x1 := grow_cell hg x1; have x2 := grow_cell hg x2; have x3 := grow_cell hg x3; have n0 := grow_cell hg n0; have n1 := grow_cell hg n1; have n2 := grow_cell hg n2; have n3 := grow_cell hg n3; have er := grow_blk er hg; obtain ⟨b0, b1, b2, b3, bf⟩ := box4 er; have hgr := hgr.trans hg; have hgrY := hgrY.trans hg; have hbv : g + 1 + 1 + 1 < v1.heap.size := Nat.lt_of_lt_of_le HGY.out hgrY.size; have hbv1 : g + 1 < v1.heap.size := (by omega); have hbv2 : g + 1 + 1 < v1.heap.size := (by omega); have hbv0 : g < v1.heap.size := (by omega)) | (go_at_call 285; (with_reducible refine (findRule_s (rs := Ri) (off := off) (Ty.up _ HXi.out hgr) ho).mono ?_); rw [HF.out]; rintro e v1 ⟨rfl, hg⟩; have kc := grow_cell hg kc; have y0 := grow_cell hg y0; have y1 := grow_cell hg y1; have y2 := grow_cell hg y2; have x0 := grow_cell hg x0; have x1 := grow_cell hg x1; have x2 := grow_cell hg x2; have x3 := grow_cell hg x3; have n0 := grow_cell hg n0; have n1 := grow_cell hg n1; have n2 := grow_cell hg n2; have n3 := grow_cell hg n3; have er := grow_blk er hg; obtain ⟨b0, b1, b2, b3, bf⟩ := box4 er; have hgr := hgr.trans hg; have hgrY := hgrY.trans hg; have hbv : g + 1 + 1 + 1 < v1.heap.size := Nat.lt_of_lt_of_le HGY.out hgrY.size; have hbv1 : g + 1 < v1.heap.size := (by omega); have hbv2 : g + 1 + 1 < v1.heap.size := (by omega); have hbv0 : g < v1.heap.size := (by omega)))
          have h2 := set4 er (.int .i64 0) (.int .i64 0) (.int .i64 0) (.slice none 0 0)
          obtain ⟨t0, t1, t2, t3, _⟩ := box4 h2.1
          exact bodyPost_ret (v := .tuple #[.agg #[.int .i64 0, .int .i64 0, .int .i64 0, .slice none 0 0], .bool false]) (by simp [results, Tryz.results183, go_sem, t0, t1, t2, t3]) rfl (RetStep.no HU.out (h2.2.gro hgr (fun b hb => by simp at hb; omega)))
        · have HF := Lib.hid hfi
          have HU0 := Lib.hid (unwStep_by (R0 := R0) (R1 := R1) (v := v) (inner := false) (i := i) (off := off) (j := j) (r := r) (by rw [HE.out]; exact HL.out) (by rw [HRI.out]; exact hfi) (by rw [HRI.out]; exact hj))
          clear hfi
          obtain ⟨gk, ok, r', hAk, hgk, hrk, m0, m1, m2, m3, _, _, hrd⟩ := atRule HXi.out (k := j) (List.getElem?_eq_some_iff.1 hj).1
          obtain rfl : r' = r := by rw [hj] at hrk; injection hrk with hrk; exact hrk.symm
          subst hAk
          have hjl : (j : Int) < (Ri.length : Int) := by have := (List.getElem?_eq_some_iff.1 hj).1; omega
          have hdep := btw_iff.1 hdp
          have hd64 : IntKind.i64.wrap (v.Sp + r'.Depth) = v.Sp + r'.Depth := IntWalk.i64_in _ ⟨by omega, by omega⟩
          have hf64 : IntKind.i64.wrap (v.Fp + 1) = v.Fp + 1 := IntWalk.i64_in _ ⟨by have := hv.2.2.1.1; omega, by have := hv.2.2.1.2; omega⟩
          have hjn : ¬ ((j : Int) < 0) := by omega
          have hj0 : (0 : Int) ≤ (j : Int) := by omega
          have m0 := grow_cell hgr m0
          have m1 := grow_cell hgr m1
          have m2 := grow_cell hgr m2
          have m3 := grow_cell hgr m3
          clear hj hrk hdp
          go_upto_region 13 with (first | (go_at_call 178; (with_reducible refine (viewOk_s v _ _ _ hl).mono ?_); rw [HV.out]; rintro e v1 ⟨rfl, hg⟩; have m0 := grow_cell hg m0; have m1 := grow_cell hg m1; have m2 := grow_cell hg m2; have m3 := grow_cell hg m3; have kc := grow_cell hg kc; have y0 := grow_cell hg y0; have y1 := grow_cell hg y1; have y2 := grow_cell hg y2; have x0 := grow_cell hg x0; have x1 := grow_cell hg x1; have x2 := grow_cell hg x2; have x3 := grow_cell hg x3; have n0 := grow_cell hg n0; have n1 := grow_cell hg n1; have n2 := grow_cell hg n2; have n3 := grow_cell hg n3; have er := grow_blk er hg; obtain ⟨b0, b1, b2, b3, bf⟩ := box4 er; have hgr := hgr.trans hg; have hgrY := hgrY.trans hg; have hbv : g + 1 + 1 + 1 < v1.heap.size := Nat.lt_of_lt_of_le HGY.out hgrY.size; have hbv1 : g + 1 < v1.heap.size := (by omega); have hbv2 : g + 1 + 1 < v1.heap.size := (by omega); have hbv0 : g < v1.heap.size := (by omega)) | (go_at_call 284; (with_reducible refine (locSS (s := s) (e := v.Pc - 1) (HS.out.up hgr) he).mono ?_); rw [HL.out]; rintro e v1 ⟨rfl, hg⟩; have m0 := grow_cell hg m0; have m1 := grow_cell hg m1; have m2 := grow_cell hg m2; have m3 := grow_cell hg m3; have kc := grow_cell hg kc; have y0 := grow_cell hg y0; have y1 := grow_cell hg y1; have y2 := grow_cell hg y2; have x0 := grow_cell hg x0; have x1 := grow_cell hg x1; have x2 := grow_cell hg x2; have x3 := grow_cell hg x3; have n0 := grow_cell hg n0; have n1 := grow_cell hg n1; have n2 := grow_cell hg n2; have n3 := grow_cell hg n3; have er := grow_blk er hg; obtain ⟨b0, b1, b2, b3, bf⟩ := box4 er; have hgr := hgr.trans hg; have hgrY := hgrY.trans hg; have hbv : g + 1 + 1 + 1 < v1.heap.size := Nat.lt_of_lt_of_le HGY.out hgrY.size; have hbv1 : g + 1 < v1.heap.size := (by omega); have hbv2 : g + 1 + 1 < v1.heap.size := (by omega); have hbv0 : g < v1.heap.size := (by omega)) | (go_at_call 285; (with_reducible refine (findRule_s (rs := Ri) (off := off) (Ty.up _ HXi.out hgr) ho).mono ?_); rw [HF.out]; rintro e v1 ⟨rfl, hg⟩; have m0 := grow_cell hg m0; have m1 := grow_cell hg m1; have m2 := grow_cell hg m2; have m3 := grow_cell hg m3; have kc := grow_cell hg kc; have y0 := grow_cell hg y0; have y1 := grow_cell hg y1; have y2 := grow_cell hg y2; have x0 := grow_cell hg x0; have x1 := grow_cell hg x1; have x2 := grow_cell hg x2; have x3 := grow_cell hg x3; have n0 := grow_cell hg n0; have n1 := grow_cell hg n1; have n2 := grow_cell hg n2; have n3 := grow_cell hg n3; have er := grow_blk er hg; obtain ⟨b0, b1, b2, b3, bf⟩ := box4 er; have hgr := hgr.trans hg; have hgrY := hgrY.trans hg; have hbv : g + 1 + 1 + 1 < v1.heap.size := Nat.lt_of_lt_of_le HGY.out hgrY.size; have hbv1 : g + 1 < v1.heap.size := (by omega); have hbv2 : g + 1 + 1 < v1.heap.size := (by omega); have hbv0 : g < v1.heap.size := (by omega)))
          have hg : Gro v1 ((v1.alloc (.cells #[.int .i64 r'.Start, .int .i64 r'.End, .bool r'.Frame, .int .i64 r'.Depth] 254)).alloc (.cells #[.int .i64 0, .int .i64 0, .int .i64 v.Fp, .slice none 0 0] 49)) := gG
          have ez := heap_alloc_new v1 (.cells #[.int .i64 r'.Start, .int .i64 r'.End, .bool r'.Frame, .int .i64 r'.Depth] 254)
          have eo := heap_alloc_new (v1.alloc (.cells #[.int .i64 r'.Start, .int .i64 r'.End, .bool r'.Frame, .int .i64 r'.Depth] 254)) (.cells #[.int .i64 0, .int .i64 0, .int .i64 v.Fp, .slice none 0 0] 49)
          rw [World.size_alloc] at eo
          have ez := grow_blk ez (show Gro (v1.alloc (.cells #[.int .i64 r'.Start, .int .i64 r'.End, .bool r'.Frame, .int .i64 r'.Depth] 254)) ((v1.alloc (.cells #[.int .i64 r'.Start, .int .i64 r'.End, .bool r'.Frame, .int .i64 r'.Depth] 254)).alloc (.cells #[.int .i64 0, .int .i64 0, .int .i64 v.Fp, .slice none 0 0] 49)) from gG)
          have hzb : g + 1 + 1 + 1 < v1.heap.size := Nat.lt_of_lt_of_le HGY.out hgrY.size
          obtain ⟨gz, hgz⟩ : ∃ gz, v1.heap.size = gz := ⟨_, rfl⟩
          rw [hgz] at ez eo ⊢
          have hgzb : g + 1 + 1 + 1 < gz := by omega
          have kc := grow_cell hg kc
          have y0 := grow_cell hg y0
          have y1 := grow_cell hg y1
          have y2 := grow_cell hg y2
          have x0 := grow_cell hg x0
          have x1 := grow_cell hg x1
          have x2 := grow_cell hg x2
          have x3 := grow_cell hg x3
          have n0 := grow_cell hg n0
          have n1 := grow_cell hg n1
          have n2 := grow_cell hg n2
          have n3 := grow_cell hg n3
          have er := grow_blk er hg
          obtain ⟨b0, b1, b2, b3, bf⟩ := box4 er
          have hgr := hgr.trans hg; have hgrY := hgrY.trans hg
          clear hgrY
          generalize (v1.alloc (.cells #[.int .i64 r'.Start, .int .i64 r'.End, .bool r'.Frame, .int .i64 r'.Depth] 254)).alloc (.cells #[.int .i64 0, .int .i64 0, .int .i64 v.Fp, .slice none 0 0] 49) = Y2 at ez eo er kc y0 y1 y2 x0 x1 x2 x3 n0 n1 n2 n3 b0 b1 b2 b3 bf hgr ⊢
          obtain ⟨z0, z1, z2, z3, _⟩ := box4 ez
          obtain ⟨o0, o1, o2, o3, of⟩ := box4 eo
          obtain ⟨go, hgo⟩ : ∃ go, gz + 1 = go := ⟨_, rfl⟩
          rw [hgo] at eo o0 o1 o2 o3 of ⊢
          have hgoz : gz < go := by omega
          clear hg hgz hzb hgo
          cases hfr : r'.Frame with
          | false =>
            rw [hfr] at z2
            have HB := Lib.hid (unwBy_plain (v := v) hfr)
            go_upto_region 21 with (fail)
            rcases wordOf_cases v (v.Sp + r'.Depth) with ⟨_, pe⟩ | ⟨pj, px, p1, p2, p3, _, pe⟩
            · have Hp := Lib.hid pe
              have HU : Hid (unwStep s R0 R1 v false = none) := Lib.hid (HU0.out.trans (HB.out.trans (by rw [Hp.out]; rfl)))
              clear pe
              go_wp2_with (first | (go_at_call 286; (with_reducible refine (wordOf_s (v := v) (a := v.Sp + r'.Depth) hv (Ty.up _ h3 hgr)).mono ?_); rw [Hp.out]; rintro e v1 ⟨rfl, hg⟩; have y0 := grow_cell hg y0; have y1 := grow_cell hg y1; have y2 := grow_cell hg y2; have x0 := grow_cell hg x0; have x1 := grow_cell hg x1; have x2 := grow_cell hg x2; have x3 := grow_cell hg x3; have n0 := grow_cell hg n0; have n1 := grow_cell hg n1; have n2 := grow_cell hg n2; have n3 := grow_cell hg n3; have er := grow_blk er hg; have eo := grow_blk eo hg; obtain ⟨b0, b1, b2, b3, bf⟩ := box4 er; obtain ⟨o0, o1, o2, o3, of⟩ := box4 eo; have hgr  := hgr.trans hg))
              have h2 := set4 er (.int .i64 0) (.int .i64 0) (.int .i64 0) (.slice none 0 0)
              obtain ⟨t0, t1, t2, t3, _⟩ := box4 h2.1
              exact bodyPost_ret (v := .tuple #[.agg #[.int .i64 0, .int .i64 0, .int .i64 0, .slice none 0 0], .bool false]) (by simp [results, Tryz.results183, go_sem, t0, t1, t2, t3]) rfl (RetStep.no HU.out (h2.2.gro hgr (fun b hb => by simp at hb; omega)))
            · have Hp := Lib.hid pe
              have Hp1 := Lib.hid p1
              have HW := Lib.hid (show wordOf v (v.Sp + (pj : Int)) = some px from by rw [← Hp1.out]; exact Hp.out)
              rw [show v.Sp + r'.Depth = v.Sp + (pj : Int) from Hp1.out]
              obtain ⟨kk, hkk⟩ : ∃ kk, pj + 1 = kk := ⟨_, rfl⟩
              have HKK := Lib.hid hkk
              have hkl : kk ≤ v.Words.length := by omega
              have hsx : Small px := hv.2.2.2 _ (List.mem_of_getElem? p3)
              have hsf : Small v.Fp := hv.2.2.1
              have HU : Hid (unwStep s R0 R1 v false = some ⟨px, v.Sp + (kk : Int), v.Fp, v.Words.drop kk⟩) := Lib.hid ((HU0.out.trans (HB.out)).trans (by rw [Hp.out]; exact congrArg some (unwTo_eq (by have h1 := Hp1.out; have h2 := HKK.out; omega))))
              have hpl : IntKind.i64.wrap (v.Sp + (pj : Int) + 1) = v.Sp + (kk : Int) := by rw [show v.Sp + (pj : Int) + 1 = v.Sp + (kk : Int) from by omega]; exact IntWalk.i64_in _ ⟨by omega, by omega⟩
              have hpk : IntKind.i64.wrap (v.Sp + (kk : Int) - v.Sp) = (kk : Int) := by rw [show v.Sp + (kk : Int) - v.Sp = (kk : Int) from by omega]; exact IntWalk.i64_in _ ⟨by omega, by omega⟩
              have hk0 : IntKind.i64.wrap (kk : Int) = (kk : Int) := IntWalk.i64_in _ ⟨by omega, by omega⟩
              obtain ⟨_, _, hx', hxl, hcm⟩ := sl_at h3
              injection hx' with q1 q2 q3
              subst q1 q3
              clear q2
              obtain ⟨B9, hsl, hd⟩ := run_from (P := Tryz.prog) elInt h3 (k := kk) hkl
              obtain ⟨L, hL⟩ : ∃ L, v.Words.length - kk = L := ⟨_, rfl⟩
              rw [hL] at hsl hd
              obtain ⟨ds, hds⟩ : ∃ ds, v.Words.drop kk = ds := ⟨_, rfl⟩
              have hln : L = ds.length := by rw [← hds, List.length_drop]; exact hL.symm
              rw [hds] at HU hd
              have HLN := Lib.hid hln
              have hL2 : L ≤ 1200 := by omega
              clear hL hds hln hkk p1 p3 pe
              go_upto_region 26 with (first | (go_at_call 286; (with_reducible refine (wordOf_s (v := v) (a := (v.Sp + (pj : Int))) hv (Ty.up _ h3 hgr)).mono ?_); rw [HW.out]; rintro e v1 ⟨rfl, hg⟩; have y0 := grow_cell hg y0; have y1 := grow_cell hg y1; have y2 := grow_cell hg y2; have x0 := grow_cell hg x0; have x1 := grow_cell hg x1; have x2 := grow_cell hg x2; have x3 := grow_cell hg x3; have n0 := grow_cell hg n0; have n1 := grow_cell hg n1; have n2 := grow_cell hg n2; have n3 := grow_cell hg n3; have er := grow_blk er hg; have eo := grow_blk eo hg; obtain ⟨b0, b1, b2, b3, bf⟩ := box4 er; obtain ⟨o0, o1, o2, o3, of⟩ := box4 eo; have hgr  := hgr.trans hg))
              have ho2 : OnlyS [go] v1 ((v1.setCell ⟨go, 0, none⟩ (.int .i64 px)).setCell ⟨go, 1, none⟩ (.int .i64 (v.Sp + (kk : Int)))) := ((OnlyS.refl _ _).setCell (p := ⟨go, 0, none⟩) (by simp) _).setCell (p := ⟨go, 1, none⟩) (by simp) _
              have eo2 := heap_setCell_at (heap_setCell_at eo 0 (.int .i64 px)) 1 (.int .i64 (v.Sp + (kk : Int)))
              simp only [List.setIfInBounds_toArray, List.set_cons_zero, List.set_cons_succ] at eo2
              have hgo1 : g + 1 ≠ go := by omega
              have hgo2 : g + 1 + 1 ≠ go := by omega
              have x0 := keep_thru x0 (Gro.refl _) ho2 (by simpa using hgo1)
              have x1 := keep_thru x1 (Gro.refl _) ho2 (by simpa using hgo1)
              have x2 := keep_thru x2 (Gro.refl _) ho2 (by simpa using hgo1)
              have x3 := keep_thru x3 (Gro.refl _) ho2 (by simpa using hgo1)
              have er := frz_thru er (Gro.refl _) ho2 (by simpa using hgo2)
              have hgr := ho2.gro hgr (fun b hb => by simp at hb; omega)
              generalize (v1.setCell ⟨go, 0, none⟩ (.int .i64 px)).setCell ⟨go, 1, none⟩ (.int .i64 (v.Sp + (kk : Int))) = Y4 at ho2 eo2 x0 x1 x2 x3 er hgr ⊢
              obtain ⟨b0, b1, b2, b3, bf⟩ := box4 er
              obtain ⟨o0, o1, o2, o3, of⟩ := box4 eo2
              have hgoY : go < Y4.heap.size := (Array.getElem?_eq_some_iff.1 eo2).1
              have hgrY : g + 1 + 1 < Y4.heap.size := (Array.getElem?_eq_some_iff.1 er).1
              have hgY1 : g + 1 < Y4.heap.size := by omega
              have hgne : g + 1 + 1 ≠ Y4.heap.size := by omega
              have hgne1 : g + 1 ≠ Y4.heap.size := by omega
              have hgne2 : go ≠ Y4.heap.size := by omega
              clear ho2 eo
              go_wp2_with (first | (refine wpList_append_hasl (L := L) rfl (.tmp 109) (.tmp 117) elInt flat_int (S := [Y4.heap.size]) (Has.emp intT (heap_alloc_new _ _)) (ys := ds) (Ty.up _ hd (hgr.trans gF)) rfl rfl rfl (Nat.zero_add _).symm (by omega) (by omega) ?_; intro A7 c7 W7 S7 hon hH7 hS7; have er := frz_thru er (W := Y4.alloc _) gF hon (by simpa using hgne); have eo2 := frz_thru eo2 (W := Y4.alloc _) gF hon (by simpa using hgne2); have x1 := keep_thru x1 (W := Y4.alloc _) gF hon (by simpa using hgne1); obtain ⟨b0, b1, b2, b3, bf⟩ := box4 er; obtain ⟨o0, o1, o2, o3, of⟩ := box4 eo2))
              have hGY : Gro Y4 W7 := hon.gro (W0 := Y4) gF (fun b hb => by simp at hb; omega)
              have hlo : ∀ b ∈ S7, Y4.heap.size ≤ b := fun b hb => by
                rcases hS7 b hb with h | h
                · simp at h; omega
                · simp at h; omega
              have ho5 : OnlyS [go] W7 (W7.setCell ⟨go, 3, none⟩ (.slice A7 L c7)) := (OnlyS.refl _ _).setCell (p := ⟨go, 3, none⟩) (by simp) _
              have er5 := frz_thru er (Gro.refl _) ho5 (by simpa using hgo2)
              have hH5 := hH7.keep ho5 (fun b hb hm => by have := hlo b hb; simp at hm; omega)
              have hg5 := ho5.gro (hgr.trans hGY) (fun b hb => by simp at hb; omega)
              have h2 := set4 er5 (.int .i64 px) (.int .i64 (v.Sp + (kk : Int))) (.int .i64 v.Fp) (.slice A7 L c7)
              obtain ⟨t0, t1, t2, t3, _⟩ := box4 h2.1
              have hH8 := hH5.keep h2.2 (fun b hb hm => by have := hlo b hb; simp at hm; omega)
              rw [List.nil_append] at hH8
              obtain rfl : L = ds.length := HLN.out
              have hwY := hgr.size
              have hI1 : I64 px := ⟨by have := hsx.1; omega, by have := hsx.2; omega⟩
              have hI2 : I64 (v.Sp + (kk : Int)) := ⟨by omega, by omega⟩
              have hI3 : I64 v.Fp := ⟨by have := hsf.1; omega, by have := hsf.2; omega⟩
              exact bodyPost_ret (v := .tuple #[.agg #[.int .i64 px, .int .i64 (v.Sp + (kk : Int)), .int .i64 v.Fp, .slice A7 ds.length c7], .bool true]) (by simp [results, Tryz.results183, go_sem, t0, t1, t2, t3]) rfl (RetStep.yes HU.out (tView_fresh (x := ⟨px, v.Sp + (kk : Int), v.Fp, ds⟩) hI1 hI2 hI3 (Has.fresh (w := w) hH8 (fun b hb => by have := hlo b hb; omega)).fre (Nat.le_refl _)) (h2.2.gro hg5 (fun b hb => by simp at hb; omega)))
          | true =>
            rw [hfr] at z2
            rcases wordOf_cases v (v.Fp) with ⟨_, pe⟩ | ⟨pj, px, p1, p2, p3, _, pe⟩
            · have Hp := Lib.hid pe
              have HU : Hid (unwStep s R0 R1 v false = none) := Lib.hid (HU0.out.trans (unwBy_no hfr Hp.out))
              clear pe
              go_wp2_with (first | (go_at_call 286; (with_reducible refine (wordOf_s (v := v) (a := v.Fp) hv (Ty.up _ h3 hgr)).mono ?_); rw [Hp.out]; rintro e v1 ⟨rfl, hg⟩; have y0 := grow_cell hg y0; have y1 := grow_cell hg y1; have y2 := grow_cell hg y2; have x0 := grow_cell hg x0; have x1 := grow_cell hg x1; have x2 := grow_cell hg x2; have x3 := grow_cell hg x3; have n0 := grow_cell hg n0; have n1 := grow_cell hg n1; have n2 := grow_cell hg n2; have n3 := grow_cell hg n3; have er := grow_blk er hg; have eo := grow_blk eo hg; obtain ⟨b0, b1, b2, b3, bf⟩ := box4 er; obtain ⟨o0, o1, o2, o3, of⟩ := box4 eo; have hgr  := hgr.trans hg))
              have h2 := set4 er (.int .i64 0) (.int .i64 0) (.int .i64 0) (.slice none 0 0)
              obtain ⟨t0, t1, t2, t3, _⟩ := box4 h2.1
              exact bodyPost_ret (v := .tuple #[.agg #[.int .i64 0, .int .i64 0, .int .i64 0, .slice none 0 0], .bool false]) (by simp [results, Tryz.results183, go_sem, t0, t1, t2, t3]) rfl (RetStep.no HU.out (h2.2.gro hgr (fun b hb => by simp at hb; omega)))
            · have Hp := Lib.hid pe
              have Hp1 := Lib.hid p1
              have HB := Lib.hid (unwBy_frame (v := v) hfr Hp.out)
              have hsp : Small px := hv.2.2.2 _ (List.mem_of_getElem? p3)
              clear p1 p3 pe
              go_upto_region 21 with (first | (go_at_call 286; (with_reducible refine (wordOf_s (v := v) (a := v.Fp) hv (Ty.up _ h3 hgr)).mono ?_); rw [Hp.out]; rintro e v1 ⟨rfl, hg⟩; have y0 := grow_cell hg y0; have y1 := grow_cell hg y1; have y2 := grow_cell hg y2; have x0 := grow_cell hg x0; have x1 := grow_cell hg x1; have x2 := grow_cell hg x2; have x3 := grow_cell hg x3; have n0 := grow_cell hg n0; have n1 := grow_cell hg n1; have n2 := grow_cell hg n2; have n3 := grow_cell hg n3; have er := grow_blk er hg; have eo := grow_blk eo hg; obtain ⟨b0, b1, b2, b3, bf⟩ := box4 er; obtain ⟨o0, o1, o2, o3, of⟩ := box4 eo; have hgr  := hgr.trans hg))
              have ho2 : OnlyS [go] v1 (v1.setCell ⟨go, 2, none⟩ (.int .i64 px)) := (OnlyS.refl _ _).setCell (p := ⟨go, 2, none⟩) (by simp) _
              have eo := heap_setCell_at eo 2 (.int .i64 px)
              simp only [List.setIfInBounds_toArray, List.set_cons_zero, List.set_cons_succ] at eo
              have y0 := keep_thru y0 (Gro.refl _) ho2 (by simp; omega)
              have y1 := keep_thru y1 (Gro.refl _) ho2 (by simp; omega)
              have y2 := keep_thru y2 (Gro.refl _) ho2 (by simp; omega)
              have x0 := keep_thru x0 (Gro.refl _) ho2 (by simp; omega)
              have x1 := keep_thru x1 (Gro.refl _) ho2 (by simp; omega)
              have x2 := keep_thru x2 (Gro.refl _) ho2 (by simp; omega)
              have x3 := keep_thru x3 (Gro.refl _) ho2 (by simp; omega)
              have n0 := keep_thru n0 (Gro.refl _) ho2 (by simp; omega)
              have n1 := keep_thru n1 (Gro.refl _) ho2 (by simp; omega)
              have n2 := keep_thru n2 (Gro.refl _) ho2 (by simp; omega)
              have n3 := keep_thru n3 (Gro.refl _) ho2 (by simp; omega)
              have er := frz_thru er (Gro.refl _) ho2 (by simp; omega)
              have hgr := ho2.gro hgr (fun b hb => by simp at hb; omega)
              generalize v1.setCell ⟨go, 2, none⟩ (.int .i64 px) = Y3 at ho2 eo y0 y1 y2 x0 x1 x2 x3 n0 n1 n2 n3 er hgr ⊢
              obtain ⟨b0, b1, b2, b3, bf⟩ := box4 er
              obtain ⟨o0, o1, o2, o3, of⟩ := box4 eo
              clear ho2
              rcases wordOf_cases v (v.Fp + 1) with ⟨_, qe⟩ | ⟨qj, qx, q1, q2, q3, _, qe⟩
              · have Hq := Lib.hid qe
                have HU : Hid (unwStep s R0 R1 v false = none) := Lib.hid (HU0.out.trans (HB.out.trans (by rw [Hq.out]; rfl)))
                clear qe
                go_wp2_with (first | (go_at_call 286; (with_reducible refine (wordOf_s (v := v) (a := v.Fp + 1) hv (Ty.up _ h3 hgr)).mono ?_); rw [Hq.out]; rintro e v1 ⟨rfl, hg⟩; have y0 := grow_cell hg y0; have y1 := grow_cell hg y1; have y2 := grow_cell hg y2; have x0 := grow_cell hg x0; have x1 := grow_cell hg x1; have x2 := grow_cell hg x2; have x3 := grow_cell hg x3; have n0 := grow_cell hg n0; have n1 := grow_cell hg n1; have n2 := grow_cell hg n2; have n3 := grow_cell hg n3; have er := grow_blk er hg; have eo := grow_blk eo hg; obtain ⟨b0, b1, b2, b3, bf⟩ := box4 er; obtain ⟨o0, o1, o2, o3, of⟩ := box4 eo; have hgr  := hgr.trans hg))
                have h2 := set4 er (.int .i64 0) (.int .i64 0) (.int .i64 0) (.slice none 0 0)
                obtain ⟨t0, t1, t2, t3, _⟩ := box4 h2.1
                exact bodyPost_ret (v := .tuple #[.agg #[.int .i64 0, .int .i64 0, .int .i64 0, .slice none 0 0], .bool false]) (by simp [results, Tryz.results183, go_sem, t0, t1, t2, t3]) rfl (RetStep.no HU.out (h2.2.gro hgr (fun b hb => by simp at hb; omega)))
              · have Hq := Lib.hid qe
                have Hq1 := Lib.hid q1
                have HW := Lib.hid (show wordOf v (v.Sp + (qj : Int)) = some qx from by rw [← Hq1.out]; exact Hq.out)
                rw [show v.Fp + 1 = v.Sp + (qj : Int) from Hq1.out]
                obtain ⟨kk, hkk⟩ : ∃ kk, qj + 1 = kk := ⟨_, rfl⟩
                have HKK := Lib.hid hkk
                have hkl : kk ≤ v.Words.length := by omega
                have hsx : Small qx := hv.2.2.2 _ (List.mem_of_getElem? q3)
                have hsf : Small px := hsp
                have HU : Hid (unwStep s R0 R1 v false = some ⟨qx, v.Sp + (kk : Int), px, v.Words.drop kk⟩) := Lib.hid ((HU0.out.trans (HB.out)).trans (by rw [Hq.out]; exact congrArg some (unwTo_eq (by have h1 := Hq1.out; have h2 := HKK.out; omega))))
                have hpl : IntKind.i64.wrap (v.Sp + (qj : Int) + 1) = v.Sp + (kk : Int) := by rw [show v.Sp + (qj : Int) + 1 = v.Sp + (kk : Int) from by omega]; exact IntWalk.i64_in _ ⟨by omega, by omega⟩
                have hpk : IntKind.i64.wrap (v.Sp + (kk : Int) - v.Sp) = (kk : Int) := by rw [show v.Sp + (kk : Int) - v.Sp = (kk : Int) from by omega]; exact IntWalk.i64_in _ ⟨by omega, by omega⟩
                have hk0 : IntKind.i64.wrap (kk : Int) = (kk : Int) := IntWalk.i64_in _ ⟨by omega, by omega⟩
                obtain ⟨_, _, hx', hxl, hcm⟩ := sl_at h3
                injection hx' with q1 q2 q3
                subst q1 q3
                clear q2
                obtain ⟨B9, hsl, hd⟩ := run_from (P := Tryz.prog) elInt h3 (k := kk) hkl
                obtain ⟨L, hL⟩ : ∃ L, v.Words.length - kk = L := ⟨_, rfl⟩
                rw [hL] at hsl hd
                obtain ⟨ds, hds⟩ : ∃ ds, v.Words.drop kk = ds := ⟨_, rfl⟩
                have hln : L = ds.length := by rw [← hds, List.length_drop]; exact hL.symm
                rw [hds] at HU hd
                have HLN := Lib.hid hln
                have hL2 : L ≤ 1200 := by omega
                clear hL hds hln hkk q1 q3 qe
                go_upto_region 26 with (first | (go_at_call 286; (with_reducible refine (wordOf_s (v := v) (a := (v.Sp + (qj : Int))) hv (Ty.up _ h3 hgr)).mono ?_); rw [HW.out]; rintro e v1 ⟨rfl, hg⟩; have y0 := grow_cell hg y0; have y1 := grow_cell hg y1; have y2 := grow_cell hg y2; have x0 := grow_cell hg x0; have x1 := grow_cell hg x1; have x2 := grow_cell hg x2; have x3 := grow_cell hg x3; have n0 := grow_cell hg n0; have n1 := grow_cell hg n1; have n2 := grow_cell hg n2; have n3 := grow_cell hg n3; have er := grow_blk er hg; have eo := grow_blk eo hg; obtain ⟨b0, b1, b2, b3, bf⟩ := box4 er; obtain ⟨o0, o1, o2, o3, of⟩ := box4 eo; have hgr  := hgr.trans hg))
                have ho2 : OnlyS [go] v1 ((v1.setCell ⟨go, 0, none⟩ (.int .i64 qx)).setCell ⟨go, 1, none⟩ (.int .i64 (v.Sp + (kk : Int)))) := ((OnlyS.refl _ _).setCell (p := ⟨go, 0, none⟩) (by simp) _).setCell (p := ⟨go, 1, none⟩) (by simp) _
                have eo2 := heap_setCell_at (heap_setCell_at eo 0 (.int .i64 qx)) 1 (.int .i64 (v.Sp + (kk : Int)))
                simp only [List.setIfInBounds_toArray, List.set_cons_zero, List.set_cons_succ] at eo2
                have hgo1 : g + 1 ≠ go := by omega
                have hgo2 : g + 1 + 1 ≠ go := by omega
                have x0 := keep_thru x0 (Gro.refl _) ho2 (by simpa using hgo1)
                have x1 := keep_thru x1 (Gro.refl _) ho2 (by simpa using hgo1)
                have x2 := keep_thru x2 (Gro.refl _) ho2 (by simpa using hgo1)
                have x3 := keep_thru x3 (Gro.refl _) ho2 (by simpa using hgo1)
                have er := frz_thru er (Gro.refl _) ho2 (by simpa using hgo2)
                have hgr := ho2.gro hgr (fun b hb => by simp at hb; omega)
                generalize (v1.setCell ⟨go, 0, none⟩ (.int .i64 qx)).setCell ⟨go, 1, none⟩ (.int .i64 (v.Sp + (kk : Int))) = Y4 at ho2 eo2 x0 x1 x2 x3 er hgr ⊢
                obtain ⟨b0, b1, b2, b3, bf⟩ := box4 er
                obtain ⟨o0, o1, o2, o3, of⟩ := box4 eo2
                have hgoY : go < Y4.heap.size := (Array.getElem?_eq_some_iff.1 eo2).1
                have hgrY : g + 1 + 1 < Y4.heap.size := (Array.getElem?_eq_some_iff.1 er).1
                have hgY1 : g + 1 < Y4.heap.size := by omega
                have hgne : g + 1 + 1 ≠ Y4.heap.size := by omega
                have hgne1 : g + 1 ≠ Y4.heap.size := by omega
                have hgne2 : go ≠ Y4.heap.size := by omega
                clear ho2 eo
                go_wp2_with (first | (refine wpList_append_hasl (L := L) rfl (.tmp 109) (.tmp 117) elInt flat_int (S := [Y4.heap.size]) (Has.emp intT (heap_alloc_new _ _)) (ys := ds) (Ty.up _ hd (hgr.trans gF)) rfl rfl rfl (Nat.zero_add _).symm (by omega) (by omega) ?_; intro A7 c7 W7 S7 hon hH7 hS7; have er := frz_thru er (W := Y4.alloc _) gF hon (by simpa using hgne); have eo2 := frz_thru eo2 (W := Y4.alloc _) gF hon (by simpa using hgne2); have x1 := keep_thru x1 (W := Y4.alloc _) gF hon (by simpa using hgne1); obtain ⟨b0, b1, b2, b3, bf⟩ := box4 er; obtain ⟨o0, o1, o2, o3, of⟩ := box4 eo2))
                have hGY : Gro Y4 W7 := hon.gro (W0 := Y4) gF (fun b hb => by simp at hb; omega)
                have hlo : ∀ b ∈ S7, Y4.heap.size ≤ b := fun b hb => by
                  rcases hS7 b hb with h | h
                  · simp at h; omega
                  · simp at h; omega
                have ho5 : OnlyS [go] W7 (W7.setCell ⟨go, 3, none⟩ (.slice A7 L c7)) := (OnlyS.refl _ _).setCell (p := ⟨go, 3, none⟩) (by simp) _
                have er5 := frz_thru er (Gro.refl _) ho5 (by simpa using hgo2)
                have hH5 := hH7.keep ho5 (fun b hb hm => by have := hlo b hb; simp at hm; omega)
                have hg5 := ho5.gro (hgr.trans hGY) (fun b hb => by simp at hb; omega)
                have h2 := set4 er5 (.int .i64 qx) (.int .i64 (v.Sp + (kk : Int))) (.int .i64 px) (.slice A7 L c7)
                obtain ⟨t0, t1, t2, t3, _⟩ := box4 h2.1
                have hH8 := hH5.keep h2.2 (fun b hb hm => by have := hlo b hb; simp at hm; omega)
                rw [List.nil_append] at hH8
                obtain rfl : L = ds.length := HLN.out
                have hwY := hgr.size
                have hI1 : I64 qx := ⟨by have := hsx.1; omega, by have := hsx.2; omega⟩
                have hI2 : I64 (v.Sp + (kk : Int)) := ⟨by omega, by omega⟩
                have hI3 : I64 px := ⟨by have := hsf.1; omega, by have := hsf.2; omega⟩
                exact bodyPost_ret (v := .tuple #[.agg #[.int .i64 qx, .int .i64 (v.Sp + (kk : Int)), .int .i64 px, .slice A7 ds.length c7], .bool true]) (by simp [results, Tryz.results183, go_sem, t0, t1, t2, t3]) rfl (RetStep.yes HU.out (tView_fresh (x := ⟨qx, v.Sp + (kk : Int), px, ds⟩) hI1 hI2 hI3 (Has.fresh (w := w) hH8 (fun b hb => by have := hlo b hb; omega)).fre (Nat.le_refl _)) (h2.2.gro hg5 (fun b hb => by simp at hb; omega)))
    · have he : I64 v.Pc := ⟨by have := hv.2.1.1; omega, by have := hv.2.1.2; omega⟩
      have hpb : decide (0 < v.Pc) = false := decide_eq_false hpc
      have HL := Lib.hid (loc_no HS.out.ok (e := v.Pc) (by omega))
      have HU := Lib.hid (unwStep_no (R0 := R0) (R1 := R1) (v := v) (inner := false) (by rw [show (if false = true then v.Pc else v.Pc - 1) = v.Pc - 1 from rfl]; exact loc_no HS.out.ok (by omega)))
      go_wp2_with (first | (go_at_call 178; (with_reducible refine (viewOk_s v _ _ _ hl).mono ?_); rw [HV.out]; rintro e v1 ⟨rfl, hg⟩; have y0 := grow_cell hg y0; have y1 := grow_cell hg y1; have y2 := grow_cell hg y2; have x0 := grow_cell hg x0; have x1 := grow_cell hg x1; have x2 := grow_cell hg x2; have x3 := grow_cell hg x3; have n0 := grow_cell hg n0; have n1 := grow_cell hg n1; have n2 := grow_cell hg n2; have n3 := grow_cell hg n3; have er := grow_blk er hg; obtain ⟨b0, b1, b2, b3, bf⟩ := box4 er; have hgr := hgr.trans hg; have hgrY := hgrY.trans hg; have hbv : g + 1 + 1 + 1 < v1.heap.size := Nat.lt_of_lt_of_le HGY.out hgrY.size; have hbv1 : g + 1 < v1.heap.size := (by omega); have hbv2 : g + 1 + 1 < v1.heap.size := (by omega); have hbv0 : g < v1.heap.size := (by omega)) | (go_at_call 284; (with_reducible refine (locSS (s := s) (e := v.Pc) (HS.out.up hgr) he).mono ?_); rw [HL.out]; rintro e v1 ⟨rfl, hg⟩; have y0 := grow_cell hg y0; have y1 := grow_cell hg y1; have y2 := grow_cell hg y2; have x0 := grow_cell hg x0; have x1 := grow_cell hg x1; have x2 := grow_cell hg x2; have x3 := grow_cell hg x3; have n0 := grow_cell hg n0; have n1 := grow_cell hg n1; have n2 := grow_cell hg n2; have n3 := grow_cell hg n3; have er := grow_blk er hg; obtain ⟨b0, b1, b2, b3, bf⟩ := box4 er; have hgr := hgr.trans hg; have hgrY := hgrY.trans hg; have hbv : g + 1 + 1 + 1 < v1.heap.size := Nat.lt_of_lt_of_le HGY.out hgrY.size; have hbv1 : g + 1 < v1.heap.size := (by omega); have hbv2 : g + 1 + 1 < v1.heap.size := (by omega); have hbv0 : g < v1.heap.size := (by omega)))
      have h2 := set4 er (.int .i64 0) (.int .i64 0) (.int .i64 0) (.slice none 0 0)
      obtain ⟨t0, t1, t2, t3, _⟩ := box4 h2.1
      exact bodyPost_ret (v := .tuple #[.agg #[.int .i64 0, .int .i64 0, .int .i64 0, .slice none 0 0], .bool false]) (by simp [results, Tryz.results183, go_sem, t0, t1, t2, t3]) rfl (RetStep.no HU.out (h2.2.gro hgr (fun b hb => by simp at hb; omega)))
end Go.Proofs.YtgodpjnbhmahaaaGreat
namespace Go.Proofs.YtgodpjnbhmahaaaGreat
open Go.RowKit
set_option maxRecDepth 100000 in
set_option maxHeartbeats 4000000 in
theorem unwind_s {s : DSpace} {R0 R1 : List DRule} {v : DView} {w : World} {A0 A1 A2 A B0 B1 : Option Addr} {c0 c1 c2 c d0 d1 gr ov cr : Nat} (hS : SpaceR s w A0 A1 A2 c0 c1 c2) (hR : RulesR w gr ov R0 R1 B0 B1 d0 d1) (hv : viewIn v) (h3 : (intT.sl 3).R w w.heap.size [.slice A v.Words.length c] v.Words) :
    Calls Tryz.prog 92 #[.agg #[.slice A0 s.Images.length c0, .slice A1 s.Bases.length c1, .slice A2 s.Entries.length c2], .slice (some ⟨gr, ov, none⟩) 2 cr, .agg #[.int .i64 v.Pc, .int .i64 v.Sp, .int .i64 v.Fp, .slice A v.Words.length c]] w (RetUn (unwind s R0 R1 v) w) := by
  have hpc := hv.2.1.i64
  have HV := Lib.hid hv
  clear hv
  go_enter Tryz.func92, Tryz.ntmps92
  go_upto_region 2 with (fail)
  have hG0 : Gro w (((w.alloc (.cells #[.slice A0 s.Images.length c0, .slice A1 s.Bases.length c1, .slice A2 s.Entries.length c2] 28)).alloc (.cells #[.int .i64 v.Pc, .int .i64 v.Sp, .int .i64 v.Fp, .slice A v.Words.length c] 49)).alloc (.cells #[.int .i64 v.Pc] 3)) := gG
  have e3 := heap_alloc_new w (.cells #[.slice A0 s.Images.length c0, .slice A1 s.Bases.length c1, .slice A2 s.Entries.length c2] 28)
  have e5 := heap_alloc_new (w.alloc (.cells #[.slice A0 s.Images.length c0, .slice A1 s.Bases.length c1, .slice A2 s.Entries.length c2] 28)) (.cells #[.int .i64 v.Pc, .int .i64 v.Sp, .int .i64 v.Fp, .slice A v.Words.length c] 49)
  have e8 := heap_alloc_new ((w.alloc (.cells #[.slice A0 s.Images.length c0, .slice A1 s.Bases.length c1, .slice A2 s.Entries.length c2] 28)).alloc (.cells #[.int .i64 v.Pc, .int .i64 v.Sp, .int .i64 v.Fp, .slice A v.Words.length c] 49)) (.cells #[.int .i64 v.Pc] 3)
  simp only [World.size_alloc] at e5 e8 ⊢
  obtain ⟨g, hg0⟩ : ∃ g, w.heap.size = g := ⟨_, rfl⟩
  have hwg : w.heap.size ≤ g := by omega
  rw [hg0] at e3 e5 e8 ⊢
  have e3 := grow_blk (grow_blk e3 ((Gro.refl _).alloc (.cells #[.int .i64 v.Pc, .int .i64 v.Sp, .int .i64 v.Fp, .slice A v.Words.length c] 49))) ((Gro.refl _).alloc (.cells #[.int .i64 v.Pc] 3))
  have e5 := grow_blk e5 ((Gro.refl _).alloc (.cells #[.int .i64 v.Pc] 3))
  generalize ((w.alloc (.cells #[.slice A0 s.Images.length c0, .slice A1 s.Bases.length c1, .slice A2 s.Entries.length c2] 28)).alloc (.cells #[.int .i64 v.Pc, .int .i64 v.Sp, .int .i64 v.Fp, .slice A v.Words.length c] 49)).alloc (.cells #[.int .i64 v.Pc] 3) = Y at hG0 e3 e5 e8 ⊢
  clear hg0
  go_loopw [8] (fun z wr => ∃ (ys : List Int) (x : DView) (A8 : Option Addr) (c8 : Nat) (S : List Nat) (B : Option Addr) (k : Nat), z = .slice A8 ys.length c8 ∧ 1 ≤ ys.length ∧ ys.length ≤ 40 ∧ Hid (Gro w wr) ∧ Hid (wr.heap[g]? = some (.cells #[.slice A0 s.Images.length c0, .slice A1 s.Bases.length c1, .slice A2 s.Entries.length c2] 28 (0, 0))) ∧ Hid (wr.heap[g + 1]? = some (.cells #[.int .i64 x.Pc, .int .i64 x.Sp, .int .i64 x.Fp, .slice B x.Words.length k] 49 (0, 0))) ∧ Hid (viewIn x) ∧ Hid (Has (intT.sl 3) wr [.slice A8 ys.length c8] ys S) ∧ Hid (∀ b ∈ S, g + 1 < b) ∧ Hid (WordsAt w wr S (.slice B x.Words.length k) x.Words) ∧ Hid (unwGo s R0 R1 (40 - ys.length) ys x = unwind s R0 R1 v)) (fun z _ => 40 - slLen z)
  case atStart => exact ⟨[v.Pc], v, _, 1, [g + 1 + 1], A, c, rfl, by simp, by simp, Lib.hid hG0, Lib.hid e3, Lib.hid e5, HV, Lib.hid (int_one e8 hpc), Lib.hid (fun b hb => by simp at hb; omega), Lib.hid (.inl h3), Lib.hid rfl⟩
  case round =>
    obtain ⟨ys, x, A8, c8, S, B, k, rfl, hy1, hy40, hG, h3', h5', hX, hH, hSg, hW, hE⟩ := hrel
    have hS2 : Hid (∀ b ∈ S, w.heap.size ≤ b) := Lib.hid (fun b hb => by have := hSg.out b hb; omega)
    have e3 := h3'.out
    have e5 := h5'.out
    obtain ⟨z0, z1, z2, _⟩ := row3 e3
    obtain ⟨x0, x1, x2, x3, _⟩ := box4 e5
    have hgl : g + 1 < wr.heap.size := (Array.getElem?_eq_some_iff.1 e5).1
    clear e3
    by_cases hlt : ys.length < 40
    · have hli : (ys.length : Int) < 40 := by omega
      obtain ⟨inner, hin⟩ : ∃ b, ((ys.length : Int) == 1) = b := ⟨_, rfl⟩
      have hind : decide (ys.length = 1) = inner := by
        rw [← hin]
        by_cases h1 : ys.length = 1
        · rw [decide_eq_true h1, h1]; rfl
        · rw [decide_eq_false h1]
          exact (beq_eq_false_iff_ne.2 (by omega)).symm
      obtain ⟨o, ho⟩ : ∃ o, unwStep s R0 R1 x (decide (ys.length = 1)) = o := ⟨_, rfl⟩
      have HU := Lib.hid (show unwStep s R0 R1 x inner = o from by rw [← hind]; exact ho)
      have HO := Lib.hid ho
      clear ho hind
      cases o with
      | none =>
        have HF := Lib.hid (hE.out.symm.trans (unwGo_no (by omega) HO.out))
        go_wp2_with (go_at_call 183; (with_reducible refine (unwStep_s (hS.up hG.out) (hR.up hG.out) hX.out (hW.out.read hG.out)).mono ?_); rw [HU.out]; intro e v2 hr; obtain ⟨rfl, hg2⟩ := hr.out_no)
        exact bodyPost_ret (v := .tuple #[.slice A8 ys.length c8, .bool false]) (by simp [results, Tryz.results92, go_sem]) rfl (RetUn.mk (hH.out.gro (hg2.trans gF)) HF.out rfl hS2.out (hG.out.trans (hg2.trans gG)))
      | some y =>
        have HY := Lib.hid (unwStep_in hX.out HU.out)
        by_cases hp : y.Pc = 0
        · have HF := Lib.hid (hE.out.symm.trans (unwGo_end (by omega) HO.out hp))
          have hpb : (y.Pc == 0) = true := beq_iff_eq.2 hp
          clear hp
          go_wp2_with (go_at_call 183; (with_reducible refine (unwStep_s (hS.up hG.out) (hR.up hG.out) hX.out (hW.out.read hG.out)).mono ?_); rw [HU.out]; intro e v2 hr; obtain ⟨B2, k2, Sw, rfl, hHw, hSw, hyi, hg2⟩ := hr.out_yes)
          exact bodyPost_ret (v := .tuple #[.slice A8 ys.length c8, .bool true]) (by simp [results, Tryz.results92, go_sem]) rfl (RetUn.mk (hH.out.gro (hg2.trans gF)) HF.out rfl hS2.out (hG.out.trans (hg2.trans gG)))
        · have HF := Lib.hid ((unwGo_more (m := 40 - (ys.length + 1)) (by omega) HO.out hp).symm.trans hE.out)
          have hpb : (y.Pc == 0) = false := beq_eq_false_iff_ne.2 hp
          clear hp
          go_upto_region 9 with (first
            | (go_at_call 183; (with_reducible refine (unwStep_s (hS.up hG.out) (hR.up hG.out) hX.out (hW.out.read hG.out)).mono ?_); rw [HU.out]; intro e v2 hr; obtain ⟨B2, k2, Sw, rfl, hHw, hSw, hyi, hg2⟩ := hr.out_yes; have e9 := heap_alloc_new v2 (.cells #[.int .i64 y.Pc, .int .i64 y.Sp, .int .i64 y.Fp, .slice B2 y.Words.length k2] 49))
            | (refine wpList_append_hasf (L := ys.length + 1) (y := y.Pc) rfl (.tmp 34) (.tmp 37) elInt flat_int (S := S) (hH.out.gro (hg2.trans gF)) (ec := [.int .i64 y.Pc]) (W1 := w) (B := w.heap.size) ⟨rfl, hyi.1, hyi.2⟩ rfl rfl rfl (by intro j u hu; simpa [go_sem] using hu) rfl (by omega) (by omega) ?_; intro A9 c9 W9 S9 hon hH9 hS9))
          have hSl : ∀ b ∈ S, b < v2.heap.size := fun b hb => by have := hH.out.lt b hb; have := hg2.size; omega
          have hv2 : g + 1 < v2.heap.size := Nat.lt_of_lt_of_le hgl hg2.size
          have hSw2 : ∀ b ∈ Sw, b < v2.heap.size := hHw.lt
          have e9 := frz_thru e9 ((Gro.refl _).alloc _) hon (fun hm => by have := hSl _ hm; omega)
          have e3 := frz_thru h3'.out ((hg2.alloc _).alloc _) hon (fun hm => by have := hSg.out _ hm; omega)
          have e5 := frz_thru h5'.out ((hg2.alloc _).alloc _) hon (fun hm => by have := hSg.out _ hm; omega)
          have hgr9 : Gro w W9 := hon.gro (hG.out.trans ((hg2.alloc _).alloc _)) hS2.out
          have HW9 := Lib.hid (((hHw.gro ((Gro.refl _).alloc _)).gro ((Gro.refl _).alloc _)).keep hon (fun b hb hm => by have := hSw b hb; have := hH.out.lt _ hm; omega))
          have hd9 : Hid (∀ b ∈ S9, b ∉ Sw) := Lib.hid (fun b hb hm => by
            rcases hS9 b hb with h | h
            · have := hH.out.lt b h; have := hSw b hm; omega
            · have := hSw2 b hm; simp at h; omega)
          have hs9 : Hid (∀ b ∈ S9, g + 1 < b) := Lib.hid (fun b hb => by
            rcases hS9 b hb with h | h
            · exact hSg.out b h
            · simp at h; omega)
          have hw9 : Hid (∀ b ∈ Sw, g + 1 < b) := Lib.hid (fun b hb => by have := hSw b hb; omega)
          obtain ⟨g9, hg9⟩ : ∃ g9, v2.heap.size = g9 := ⟨_, rfl⟩
          rw [hg9] at e9 ⊢
          have HH9 := Lib.hid hH9
          clear hSw2 hSl hSw hS9 hon hHw hg2 hg9 hv2 hH9 z0 z1 z2 x0 x1 x2 x3
          obtain ⟨n0, n1, n2, n3, _⟩ := box4 e9
          obtain ⟨x0, x1, x2, x3, xf⟩ := box4 e5
          obtain ⟨s1, s2⟩ := set4 e5 (.int .i64 y.Pc) (.int .i64 y.Sp) (.int .i64 y.Fp) (.slice B2 y.Words.length k2)
          have s3 := frz_thru e3 (Gro.refl _) s2 (by simp)
          have hG9 := Lib.hid (s2.gro hgr9 (fun b hb => by simp at hb; omega))
          have hH9' := Lib.hid (HH9.out.keep s2 (fun b hb hm => by simp at hm; have := hs9.out b hb; omega))
          have hW9' := Lib.hid (HW9.out.keep s2 (fun b hb hm => by simp at hm; have := hw9.out b hb; omega))
          have S1 := Lib.hid s1
          have S3 := Lib.hid s3
          clear s1 s2 s3 e3 e9 HW9 HH9 hgr9
          go_wp2_with (fail)
          go_roundw
          case measure => (simp [slLen]; try omega)
          case rel => exact ⟨ys ++ [y.Pc], y, A9, c9, S9, B2, k2, by simp, by simp, by simp; omega, hG9, S3, S1, HY, Lib.hid (by simpa using hH9'.out), hs9, Lib.hid (.inr ⟨Sw, hW9'.out, hd9.out⟩), Lib.hid (by rw [← HF.out, List.length_append]; rfl)⟩
    · have hli : ¬ ((ys.length : Int) < 40) := by omega
      have HF := Lib.hid (hE.out.symm.trans (unwGo_zero (by omega)))
      have hg2 : Gro wr wr := Gro.refl _
      go_wp2_with (fail)
      exact bodyPost_ret (v := .tuple #[.slice A8 ys.length c8, .bool false]) (by simp [results, Tryz.results92, go_sem]) rfl (RetUn.mk hH.out HF.out rfl hS2.out (hG.out.trans (hg2.trans gG)))
end Go.Proofs.YtgodpjnbhmahaaaGreat
namespace Go.Proofs.YtgodpjnbhmahaaaGreat
open Go.RowKit
theorem framesOf_max {a : DAgent} {e : Int} {start : Bool} (hq : spaceOk a.Space = true) : framesOf a (e - 1) start = framesOf a (max 0 e - 1) start := by
  by_cases h : 0 ≤ e
  · rw [show max 0 e = e from by omega]
  · rw [framesOf_low hq (by omega), framesOf_low hq (by omega)]
theorem allGo_drop {a : DAgent} {start : Bool} {es : List Int} (h : allGo a start es 0 = true) : ∀ j, allGo a start (es.drop j) j = true
  | 0 => by rw [List.drop_zero]; exact h
  | j + 1 => by
    have ih := allGo_drop h j
    cases hx : es[j]? with
    | none =>
      rw [List.drop_eq_nil_of_le (by have := List.getElem?_eq_none_iff.1 hx; omega)]
      rfl
    | some e =>
      rw [allGo_at hx, Bool.and_eq_true] at ih
      exact ih.2
set_option maxRecDepth 100000 in
set_option maxHeartbeats 4000000 in
theorem stackOf_s {a : DAgent} {x : DSample} {start : Bool} {w : World} {A0 A1 A2 A3 A4 : Option Addr} {c0 c1 c2 c3 c4 : Nat} (h0 : (tImage.sl 113).R w w.heap.size [.slice A0 a.Space.Images.length c0] a.Space.Images) (h1 : (intT.sl 3).R w w.heap.size [.slice A1 a.Space.Bases.length c1] a.Space.Bases)
    (h2 : (intT.sl 3).R w w.heap.size [.slice A2 a.Space.Entries.length c2] a.Space.Entries) (h3 : (tDebug.sl 97).R w w.heap.size [.slice A3 a.Debugs.length c3] a.Debugs) (h4 : (intT.sl 3).R w w.heap.size [.slice A4 x.View.Words.length c4] x.View.Words) (hsz : szSpace a.Space ≤ 1099511627776) (hn : ∀ d ∈ a.Debugs, d.Inlines.length ≤ 1048576) (hsw : x.View.Words.length ≤ 1099511627776) :
    Calls Tryz.prog 24 #[.agg #[.slice A0 a.Space.Images.length c0, .slice A1 a.Space.Bases.length c1, .slice A2 a.Space.Entries.length c2, .slice A3 a.Debugs.length c3], .agg #[.int .i64 x.Thread, .int .i64 x.View.Pc, .int .i64 x.View.Sp, .int .i64 x.View.Fp, .slice A4 x.View.Words.length c4], .bool start] w (RetPs (stackOf a x start) w) := by
  obtain ⟨q, hq⟩ : ∃ q, agentOk a = q := ⟨_, rfl⟩
  have HA := Lib.hid hq
  obtain ⟨p, hp⟩ : ∃ p, sampleOk x = p := ⟨_, rfl⟩
  have HX := Lib.hid hp
  cases q with
  | false =>
    have HF := Lib.hid (show stackOf a x start = ([], false) from by unfold stackOf; rw [if_neg (by rw [hq]; simp)])
    clear hq hp
    go_enter Tryz.func24, Tryz.ntmps24
    go_upto_region 1 with (fail)
    have hgr : Gro w ((w.alloc (.cells #[.slice A0 a.Space.Images.length c0, .slice A1 a.Space.Bases.length c1, .slice A2 a.Space.Entries.length c2, .slice A3 a.Debugs.length c3] 31)).alloc (.cells #[.int .i64 x.Thread, .int .i64 x.View.Pc, .int .i64 x.View.Sp, .int .i64 x.View.Fp, .slice A4 x.View.Words.length c4] 51)) := gG
    have ea := heap_alloc_new w (.cells #[.slice A0 a.Space.Images.length c0, .slice A1 a.Space.Bases.length c1, .slice A2 a.Space.Entries.length c2, .slice A3 a.Debugs.length c3] 31)
    have es := heap_alloc_new (w.alloc (.cells #[.slice A0 a.Space.Images.length c0, .slice A1 a.Space.Bases.length c1, .slice A2 a.Space.Entries.length c2, .slice A3 a.Debugs.length c3] 31)) (.cells #[.int .i64 x.Thread, .int .i64 x.View.Pc, .int .i64 x.View.Sp, .int .i64 x.View.Fp, .slice A4 x.View.Words.length c4] 51)
    simp only [World.size_alloc] at es ⊢
    have ea := grow_blk ea ((Gro.refl _).alloc (.cells #[.int .i64 x.Thread, .int .i64 x.View.Pc, .int .i64 x.View.Sp, .int .i64 x.View.Fp, .slice A4 x.View.Words.length c4] 51))
    obtain ⟨g0, hg0⟩ : ∃ g0, w.heap.size = g0 := ⟨_, rfl⟩
    rw [hg0] at ea es ⊢
    have hwg : w.heap.size ≤ g0 := by omega
    clear hg0
    generalize (w.alloc (.cells #[.slice A0 a.Space.Images.length c0, .slice A1 a.Space.Bases.length c1, .slice A2 a.Space.Entries.length c2, .slice A3 a.Debugs.length c3] 31)).alloc (.cells #[.int .i64 x.Thread, .int .i64 x.View.Pc, .int .i64 x.View.Sp, .int .i64 x.View.Fp, .slice A4 x.View.Words.length c4] 51) = Y at hgr ea es ⊢
    have hgy := Gro.refl Y
    obtain ⟨y0, y1, y2, y3, _, hgY⟩ := row4 ea
    obtain ⟨s0, s1, s2, s3, s4, _⟩ := row5 es
    clear ea es
    go_wp2_with (first | (go_at_call 91; (with_reducible refine (agentOk_s (a := a) (Ty.up _ h0 hgr) (Ty.up _ h1 hgr) (Ty.up _ h2 hgr) (Ty.up _ h3 hgr) hsz).mono ?_); rw [HA.out]; rintro e v1 ⟨rfl, hg⟩; have y0 := grow_cell hg y0; have y1 := grow_cell hg y1; have y2 := grow_cell hg y2; have y3 := grow_cell hg y3; have s0 := grow_cell hg s0; have s1 := grow_cell hg s1; have s2 := grow_cell hg s2; have s3 := grow_cell hg s3; have s4 := grow_cell hg s4; have hgr := hgr.trans hg; have hgy := hgy.trans hg) | (go_at_call 86; (with_reducible refine (sampleOk_s (x := x) (Ty.up _ h4 hgr) hsw).mono ?_); rw [HX.out]; rintro e v1 ⟨rfl, hg⟩; have y0 := grow_cell hg y0; have y1 := grow_cell hg y1; have y2 := grow_cell hg y2; have y3 := grow_cell hg y3; have s0 := grow_cell hg s0; have s1 := grow_cell hg s1; have s2 := grow_cell hg s2; have s3 := grow_cell hg s3; have s4 := grow_cell hg s4; have hgr := hgr.trans hg; have hgy := hgy.trans hg))
    exact bodyPost_ret (v := .tuple #[.slice (some ⟨v1.drew.heap.size, 0, none⟩) 0 0, .bool false]) (by simp [results, Tryz.results24, go_sem]) rfl (RetPs.mk (Has.emp tFrame (heap_alloc_new _ _)) HF.out.symm rfl (fun b hb => by simp at hb; have := hgr.size; omega) (hgr.trans gG))
  | true =>
    cases p with
    | false =>
      have HF := Lib.hid (show stackOf a x start = ([], false) from by unfold stackOf; rw [if_neg (by rw [hp]; simp)])
      clear hq hp
      go_enter Tryz.func24, Tryz.ntmps24
      go_upto_region 1 with (fail)
      have hgr : Gro w ((w.alloc (.cells #[.slice A0 a.Space.Images.length c0, .slice A1 a.Space.Bases.length c1, .slice A2 a.Space.Entries.length c2, .slice A3 a.Debugs.length c3] 31)).alloc (.cells #[.int .i64 x.Thread, .int .i64 x.View.Pc, .int .i64 x.View.Sp, .int .i64 x.View.Fp, .slice A4 x.View.Words.length c4] 51)) := gG
      have ea := heap_alloc_new w (.cells #[.slice A0 a.Space.Images.length c0, .slice A1 a.Space.Bases.length c1, .slice A2 a.Space.Entries.length c2, .slice A3 a.Debugs.length c3] 31)
      have es := heap_alloc_new (w.alloc (.cells #[.slice A0 a.Space.Images.length c0, .slice A1 a.Space.Bases.length c1, .slice A2 a.Space.Entries.length c2, .slice A3 a.Debugs.length c3] 31)) (.cells #[.int .i64 x.Thread, .int .i64 x.View.Pc, .int .i64 x.View.Sp, .int .i64 x.View.Fp, .slice A4 x.View.Words.length c4] 51)
      simp only [World.size_alloc] at es ⊢
      have ea := grow_blk ea ((Gro.refl _).alloc (.cells #[.int .i64 x.Thread, .int .i64 x.View.Pc, .int .i64 x.View.Sp, .int .i64 x.View.Fp, .slice A4 x.View.Words.length c4] 51))
      obtain ⟨g0, hg0⟩ : ∃ g0, w.heap.size = g0 := ⟨_, rfl⟩
      rw [hg0] at ea es ⊢
      have hwg : w.heap.size ≤ g0 := by omega
      clear hg0
      generalize (w.alloc (.cells #[.slice A0 a.Space.Images.length c0, .slice A1 a.Space.Bases.length c1, .slice A2 a.Space.Entries.length c2, .slice A3 a.Debugs.length c3] 31)).alloc (.cells #[.int .i64 x.Thread, .int .i64 x.View.Pc, .int .i64 x.View.Sp, .int .i64 x.View.Fp, .slice A4 x.View.Words.length c4] 51) = Y at hgr ea es ⊢
      have hgy := Gro.refl Y
      obtain ⟨y0, y1, y2, y3, _, hgY⟩ := row4 ea
      obtain ⟨s0, s1, s2, s3, s4, _⟩ := row5 es
      clear ea es
      go_wp2_with (first | (go_at_call 91; (with_reducible refine (agentOk_s (a := a) (Ty.up _ h0 hgr) (Ty.up _ h1 hgr) (Ty.up _ h2 hgr) (Ty.up _ h3 hgr) hsz).mono ?_); rw [HA.out]; rintro e v1 ⟨rfl, hg⟩; have y0 := grow_cell hg y0; have y1 := grow_cell hg y1; have y2 := grow_cell hg y2; have y3 := grow_cell hg y3; have s0 := grow_cell hg s0; have s1 := grow_cell hg s1; have s2 := grow_cell hg s2; have s3 := grow_cell hg s3; have s4 := grow_cell hg s4; have hgr := hgr.trans hg; have hgy := hgy.trans hg) | (go_at_call 86; (with_reducible refine (sampleOk_s (x := x) (Ty.up _ h4 hgr) hsw).mono ?_); rw [HX.out]; rintro e v1 ⟨rfl, hg⟩; have y0 := grow_cell hg y0; have y1 := grow_cell hg y1; have y2 := grow_cell hg y2; have y3 := grow_cell hg y3; have s0 := grow_cell hg s0; have s1 := grow_cell hg s1; have s2 := grow_cell hg s2; have s3 := grow_cell hg s3; have s4 := grow_cell hg s4; have hgr := hgr.trans hg; have hgy := hgy.trans hg))
      exact bodyPost_ret (v := .tuple #[.slice (some ⟨v1.drew.heap.size, 0, none⟩) 0 0, .bool false]) (by simp [results, Tryz.results24, go_sem]) rfl (RetPs.mk (Has.emp tFrame (heap_alloc_new _ _)) HF.out.symm rfl (fun b hb => by simp at hb; have := hgr.size; omega) (hgr.trans gG))
    | true =>
      have HF := Lib.hid (show stackOf a x start = if (unwA a x).2 = true ∧ allGo a start (unwA a x).1 0 = true then (outw (valsGo a start (unwA a x).1 0), true) else ([], false) from by
        unfold stackOf
        by_cases h : (unwA a x).2 = true ∧ allGo a start (unwA a x).1 0 = true
        · rw [if_pos ⟨hq, hp, h⟩, if_pos h]
        · rw [if_neg (fun hh => h hh.2.2), if_neg h])
      have hA : AgentR a w A0 A1 A2 A3 c0 c1 c2 c3 := ⟨⟨h0, h1, h2, (agentOk_parts hq).1, hsz⟩, h3, (agentOk_parts hq).2, hn⟩
      have hv := sampleOk_view hp
      clear hq hp
      go_enter Tryz.func24, Tryz.ntmps24
      go_upto_region 1 with (fail)
      have hgr : Gro w ((w.alloc (.cells #[.slice A0 a.Space.Images.length c0, .slice A1 a.Space.Bases.length c1, .slice A2 a.Space.Entries.length c2, .slice A3 a.Debugs.length c3] 31)).alloc (.cells #[.int .i64 x.Thread, .int .i64 x.View.Pc, .int .i64 x.View.Sp, .int .i64 x.View.Fp, .slice A4 x.View.Words.length c4] 51)) := gG
      have ea := heap_alloc_new w (.cells #[.slice A0 a.Space.Images.length c0, .slice A1 a.Space.Bases.length c1, .slice A2 a.Space.Entries.length c2, .slice A3 a.Debugs.length c3] 31)
      have es := heap_alloc_new (w.alloc (.cells #[.slice A0 a.Space.Images.length c0, .slice A1 a.Space.Bases.length c1, .slice A2 a.Space.Entries.length c2, .slice A3 a.Debugs.length c3] 31)) (.cells #[.int .i64 x.Thread, .int .i64 x.View.Pc, .int .i64 x.View.Sp, .int .i64 x.View.Fp, .slice A4 x.View.Words.length c4] 51)
      simp only [World.size_alloc] at es ⊢
      have ea := grow_blk ea ((Gro.refl _).alloc (.cells #[.int .i64 x.Thread, .int .i64 x.View.Pc, .int .i64 x.View.Sp, .int .i64 x.View.Fp, .slice A4 x.View.Words.length c4] 51))
      obtain ⟨g0, hg0⟩ : ∃ g0, w.heap.size = g0 := ⟨_, rfl⟩
      rw [hg0] at ea es ⊢
      have hwg : w.heap.size ≤ g0 := by omega
      clear hg0
      generalize (w.alloc (.cells #[.slice A0 a.Space.Images.length c0, .slice A1 a.Space.Bases.length c1, .slice A2 a.Space.Entries.length c2, .slice A3 a.Debugs.length c3] 31)).alloc (.cells #[.int .i64 x.Thread, .int .i64 x.View.Pc, .int .i64 x.View.Sp, .int .i64 x.View.Fp, .slice A4 x.View.Words.length c4] 51) = Y at hgr ea es ⊢
      have hgy := Gro.refl Y
      obtain ⟨y0, y1, y2, y3, _, hgY⟩ := row4 ea
      obtain ⟨s0, s1, s2, s3, s4, _⟩ := row5 es
      have EA := Lib.hid ea
      clear ea es
      go_wp2_with (first | (go_at_call 91; (with_reducible refine (agentOk_s (a := a) (Ty.up _ h0 hgr) (Ty.up _ h1 hgr) (Ty.up _ h2 hgr) (Ty.up _ h3 hgr) hsz).mono ?_); rw [HA.out]; rintro e v1 ⟨rfl, hg⟩; have y0 := grow_cell hg y0; have y1 := grow_cell hg y1; have y2 := grow_cell hg y2; have y3 := grow_cell hg y3; have s0 := grow_cell hg s0; have s1 := grow_cell hg s1; have s2 := grow_cell hg s2; have s3 := grow_cell hg s3; have s4 := grow_cell hg s4; have hgr := hgr.trans hg; have hgy := hgy.trans hg) | (go_at_call 86; (with_reducible refine (sampleOk_s (x := x) (Ty.up _ h4 hgr) hsw).mono ?_); rw [HX.out]; rintro e v1 ⟨rfl, hg⟩; have y0 := grow_cell hg y0; have y1 := grow_cell hg y1; have y2 := grow_cell hg y2; have y3 := grow_cell hg y3; have s0 := grow_cell hg s0; have s1 := grow_cell hg s1; have s2 := grow_cell hg s2; have s3 := grow_cell hg s3; have s4 := grow_cell hg s4; have hgr := hgr.trans hg; have hgy := hgy.trans hg))
      go_region_held3 (fun w' => w'.cell? ⟨g0, 0, none⟩ = some (.slice A0 a.Space.Images.length c0) ∧ w'.cell? ⟨g0, 1, none⟩ = some (.slice A1 a.Space.Bases.length c1) ∧ w'.cell? ⟨g0, 2, none⟩ = some (.slice A2 a.Space.Entries.length c2) ∧ w'.cell? ⟨g0, 3, none⟩ = some (.slice A3 a.Debugs.length c3) ∧ w'.cell? ⟨g0 + 1, 1, none⟩ = some (.int .i64 x.View.Pc) ∧ w'.cell? ⟨g0 + 1, 2, none⟩ = some (.int .i64 x.View.Sp) ∧ w'.cell? ⟨g0 + 1, 3, none⟩ = some (.int .i64 x.View.Fp) ∧ w'.cell? ⟨g0 + 1, 4, none⟩ = some (.slice A4 x.View.Words.length c4)) ((repeat' apply And.intro) <;> ((repeat (first | with_reducible assumption | with_reducible refine drew_keeps ?_)); done)) (first | (go_at_call 93; (with_reducible refine (rulesOf2_s (a := a) (hA.up (hgr.trans gF))).mono ?_); rintro e v1 ⟨gr, cr, B0, B1, k0, k1, rfl, hRu, hg1⟩; have y0 := grow_cell (Gro.trans (b := _) gF hg1) y0; have y1 := grow_cell (Gro.trans (b := _) gF hg1) y1; have y2 := grow_cell (Gro.trans (b := _) gF hg1) y2; have y3 := grow_cell (Gro.trans (b := _) gF hg1) y3; have s0 := grow_cell (Gro.trans (b := _) gF hg1) s0; have s1 := grow_cell (Gro.trans (b := _) gF hg1) s1; have s2 := grow_cell (Gro.trans (b := _) gF hg1) s2; have s3 := grow_cell (Gro.trans (b := _) gF hg1) s3; have s4 := grow_cell (Gro.trans (b := _) gF hg1) s4; have hgr := hgr.trans (Gro.trans (b := _) gF hg1); have hgy := hgy.trans (Gro.trans (b := _) gF hg1)) | (go_at_call 92; (with_reducible refine (unwind_s (s := a.Space) (hA.sp.up (hgr.trans gF)) (hRu.up gF) hv (Ty.up _ h4 (hgr.trans gF))).mono ?_); rintro e v2 ⟨AU, cU, SU, rfl, hHU, hSU, hgU⟩; have y0 := grow_cell (Gro.trans (b := _) gF hgU) y0; have y1 := grow_cell (Gro.trans (b := _) gF hgU) y1; have y2 := grow_cell (Gro.trans (b := _) gF hgU) y2; have y3 := grow_cell (Gro.trans (b := _) gF hgU) y3; have s0 := grow_cell (Gro.trans (b := _) gF hgU) s0; have s1 := grow_cell (Gro.trans (b := _) gF hgU) s1; have s2 := grow_cell (Gro.trans (b := _) gF hgU) s2; have s3 := grow_cell (Gro.trans (b := _) gF hgU) s3; have s4 := grow_cell (Gro.trans (b := _) gF hgU) s4; have hgr := hgr.trans (Gro.trans (b := _) gF hgU); have hgy := hgy.trans (Gro.trans (b := _) gF hgU)))
      obtain ⟨es, hes⟩ : ∃ es, (unwind a.Space (rulesA a 0) (rulesA a 1) x.View).1 = es := ⟨_, rfl⟩
      have hel40 : es.length ≤ 40 := by rw [← hes]; exact unwind_len
      have hsm : ∀ e ∈ es, Small e := by rw [← hes]; exact unwind_small hv
      rw [hes] at hHU ⊢
      obtain ⟨u2, hu2⟩ : ∃ u2, (unwind a.Space (rulesA a 0) (rulesA a 1) x.View).2 = u2 := ⟨_, rfl⟩
      rw [hu2]
      have HF2 : Hid (stackOf a x start = if u2 = true ∧ allGo a start es 0 = true then (outw (valsGo a start es 0), true) else ([], false)) := Lib.hid (by rw [← hes, ← hu2]; exact HF.out)
      clear hes hu2
      have hg02 : g0 < v2.heap.size := by have := hgy.size; omega
      go_wp2_with (fail)
      have hlw : IntKind.i64.wrap ((es.length : Int) - 1) = (es.length : Int) - 1 := IntWalk.i64_in _ ⟨by omega, by omega⟩
      go_loopw [9, 10, 11] (fun b z q wr => ∃ (j : Nat) (i : Int) (vs : List (List DFrame)) (okb : Bool) (A5 : Option Addr) (c5 : Nat) (S : List Nat), b = .bool okb ∧ z = .slice A5 (outw vs).length c5 ∧ q = .int .i64 i ∧ j ≤ es.length ∧ i = (j : Int) - 1 ∧ Hid (vs.length + j = es.length) ∧ (outw vs).length ≤ 1048577 * vs.length ∧ Hid (valsGo a start (es.drop j) j = vs) ∧ Hid ((u2 && allGo a start (es.drop j) j) = okb) ∧ Hid (Gro w wr) ∧ Hid (Gro v2 wr) ∧ Hid (wr.heap[g0]? = some (.cells #[.slice A0 a.Space.Images.length c0, .slice A1 a.Space.Bases.length c1, .slice A2 a.Space.Entries.length c2, .slice A3 a.Debugs.length c3] 31 (0, 0))) ∧ Hid (Has (tFrame.sl 59) wr [.slice A5 (outw vs).length c5] (outw vs) S) ∧ Hid (∀ b ∈ S, w.heap.size ≤ b) ∧ Hid (∀ b ∈ S, v2.heap.size ≤ b)) (fun _ _ q _ => (intOf q + 1).toNat)
      case atStart =>
        exact ⟨es.length, _, [], u2, _, 0, [v2.drew.heap.size], rfl, rfl, rfl, Nat.le_refl _, rfl, Lib.hid (by simp), by simp [outw], Lib.hid (by rw [List.drop_length]; rfl), Lib.hid (by rw [List.drop_length]; simp [allGo]), Lib.hid (hgr.trans gF), Lib.hid gF, Lib.hid (grow_blk EA.out (hgy.trans gF)), Lib.hid (Has.emp tFrame (heap_alloc_new _ _)), Lib.hid (fun b hb => by simp at hb; have := hgr.size; omega), Lib.hid (fun b hb => by simp at hb; omega)⟩
      case round =>
        obtain ⟨j, i, vs, okb, A5, c5, S, rfl, rfl, rfl, hjl, hji, HVL0, hvl, HVS, HOK, hG, hG2, hB, hH, hS, hS2⟩ := hrel
        have hHU2 := Ty.up _ hHU.read hG2.out
        cases okb with
        | false =>
          have HE : Hid (stackOf a x start = ([], false)) := Lib.hid (by
            rw [HF2.out, if_neg]
            rintro ⟨h1, h2⟩
            have h3 := HOK.out
            rw [h1, allGo_drop h2 j] at h3
            cases h3)
          by_cases hj0 : 0 < j
          · have hi0 : 0 ≤ i := by omega
            clear hji
            go_wp2_with (fail)
            exact bodyPost_ret (v := .tuple #[.slice (some ⟨wr.drew.heap.size, 0, none⟩) 0 0, .bool false]) (by simp [results, Tryz.results24, go_sem]) rfl (RetPs.mk (Has.emp tFrame (heap_alloc_new _ _)) HE.out.symm rfl (fun b hb => by simp at hb; have := hG.out.size; omega) (hG.out.trans gG))
          · have hi0 : ¬ (0 ≤ i) := by omega
            clear hji
            go_wp2_with (fail)
            exact bodyPost_ret (v := .tuple #[.slice (some ⟨wr.drew.heap.size, 0, none⟩) 0 0, .bool false]) (by simp [results, Tryz.results24, go_sem]) rfl (RetPs.mk (Has.emp tFrame (heap_alloc_new _ _)) HE.out.symm rfl (fun b hb => by simp at hb; have := hG.out.size; omega) (hG.out.trans gG))
        | true =>
          have HU2 : Hid (u2 = true) := Lib.hid (by have h := HOK.out; rw [Bool.and_eq_true] at h; exact h.1)
          by_cases hj0 : 0 < j
          · obtain ⟨k, rfl⟩ : ∃ k, j = k + 1 := ⟨j - 1, by omega⟩
            obtain rfl : i = (k : Int) := by omega
            obtain ⟨g, offx, e, hAU, hxk, xc, bs1, bs2⟩ := ints_at hHU2 (k := k) (by omega)
            have HXK := Lib.hid hxk
            have hsm := hsm e (List.mem_of_getElem? hxk)
            have HVL := Lib.hid (show vs.length + k + 1 = es.length from by have := HVL0.out; omega)
            have hvl2 : vs.length ≤ 40 := by have := HVL0.out; omega
            obtain ⟨y0, y1, y2, y3, _, _⟩ := row4 hB.out
            have hki : (k : Int) < (es.length : Int) := by omega
            have hki0 : (0 : Int) ≤ (k : Int) := by omega
            have hkw : IntKind.i64.wrap ((k : Int) - 1) = (k : Int) - 1 := IntWalk.i64_in _ ⟨by omega, by omega⟩
            clear hxk hHU2 hji HVL0
            subst hAU
            by_cases hk : k = 0
            · have hkb : ((k : Int) == 0) = true := beq_iff_eq.2 (by omega)
              have hfe : fAt a start k e = framesOf a e start := by unfold fAt; rw [if_pos hk]; simp [hk]
              clear hk
              have hfl := fAt_getD_len (start := start) (k := k) (e := e) hn
              obtain ⟨o, ho⟩ : ∃ o, fAt a start k e = o := ⟨_, rfl⟩
              have HAL := Lib.hid (allGo_at (a := a) (start := start) HXK.out)
              have HVA := Lib.hid (valsGo_at (a := a) (start := start) HXK.out)
              rw [ho] at hfe hfl HAL HVA
              have HO := Lib.hid hfe.symm
              clear hfe ho
              go_wp2_with (fail)
              go_region_held3 (fun w' => w'.cell? ⟨g0, 0, none⟩ = some (.slice A0 a.Space.Images.length c0) ∧ w'.cell? ⟨g0, 1, none⟩ = some (.slice A1 a.Space.Bases.length c1) ∧ w'.cell? ⟨g0, 2, none⟩ = some (.slice A2 a.Space.Entries.length c2) ∧ w'.cell? ⟨g0, 3, none⟩ = some (.slice A3 a.Debugs.length c3) ∧ w'.cell? ⟨g, offx + k, none⟩ = some (.int .i64 e)) ((repeat' apply And.intro) <;> ((repeat (first | with_reducible assumption | with_reducible refine drew_keeps ?_)); done)) (first | (go_at_call 94; (with_reducible refine (frames22_in (a := a) (e := e) (start := start) (hA.up (hG.out.trans gF)) hsm.i64).mono ?_); rw [HO.out]; rintro r v3 ⟨AF, cF, SF, rfl, hHF, hSF, hgF⟩; have y0 := grow_cell (Gro.trans (b := _) gF hgF) y0; have y1 := grow_cell (Gro.trans (b := _) gF hgF) y1; have y2 := grow_cell (Gro.trans (b := _) gF hgF) y2; have y3 := grow_cell (Gro.trans (b := _) gF hgF) y3; have xc := grow_cell (Gro.trans (b := _) gF hgF) xc))
              go_wp2_with (refine wpList_append_hasl (L := (outw vs).length + (o.getD []).length) rfl (.tmp 57) (.tmp 58) elFrame flatFrame (S := S) (hH.out.gro (Gro.trans (b := _) gF (hgF.trans gF))) (Ty.up _ hHF.read gF) rfl rfl rfl rfl (by omega) (by omega) ?_; intro A8 c8 W8 S8 hon hH8 hS8)
              go_roundw
              case measure => (simp [intOf]; try omega)
              case rel =>
                have hg9 : Gro wr v3 := Gro.trans (b := _) gF hgF
                have hw2 : wr.heap.size ≤ v3.heap.size := hg9.size
                have hdr : vs.length + k + 1 = es.length := HVL.out
                refine ⟨k, (k : Int) - 1, o.getD [] :: vs, o.isSome, A8, c8, S8, rfl, by rw [outw_cons, List.length_append], by go_num, by omega, rfl, Lib.hid (by simp only [List.length_cons]; omega), by rw [outw_cons, List.length_append]; simp only [List.length_cons]; omega, Lib.hid (by rw [HVA.out, ← HVS.out]), Lib.hid (by have h := HOK.out; rw [Bool.and_eq_true] at h; rw [HAL.out, h.1, h.2]; simp), Lib.hid (hon.gro (hG.out.trans (hg9.trans gF)) hS.out), Lib.hid (hon.gro (hG2.out.trans (hg9.trans gF)) hS2.out), Lib.hid (frz_thru hB.out (hg9.trans gF) hon (fun hm => by have := hS2.out _ hm; have := hg02; omega)), Lib.hid (by rw [outw_cons]; simpa [List.length_append] using hH8), Lib.hid (fun b hb => ?_), Lib.hid (fun b hb => ?_)⟩
                · rcases hS8 b hb with h | h
                  · exact hS.out b h
                  · (try simp at h); have := hG.out.size; omega
                · rcases hS8 b hb with h | h
                  · exact hS2.out b h
                  · (try simp at h); have := hG2.out.size; omega
      
            · have hkb : ((k : Int) == 0) = false := beq_eq_false_iff_ne.2 (by omega)
              have hfe : fAt a start k e = framesOf a (max 0 e - 1) false := by unfold fAt; rw [if_neg hk]; simp [hk, framesOf_max hA.sp.ok]
              clear hk
              have hfl := fAt_getD_len (start := start) (k := k) (e := e) hn
              obtain ⟨o, ho⟩ : ∃ o, fAt a start k e = o := ⟨_, rfl⟩
              have HAL := Lib.hid (allGo_at (a := a) (start := start) HXK.out)
              have HVA := Lib.hid (valsGo_at (a := a) (start := start) HXK.out)
              rw [ho] at hfe hfl HAL HVA
              have HO := Lib.hid hfe.symm
              clear hfe ho
              go_wp2_with (fail)
              go_region_held3 (fun w' => w'.cell? ⟨g0, 0, none⟩ = some (.slice A0 a.Space.Images.length c0) ∧ w'.cell? ⟨g0, 1, none⟩ = some (.slice A1 a.Space.Bases.length c1) ∧ w'.cell? ⟨g0, 2, none⟩ = some (.slice A2 a.Space.Entries.length c2) ∧ w'.cell? ⟨g0, 3, none⟩ = some (.slice A3 a.Debugs.length c3) ∧ w'.cell? ⟨g, offx + k, none⟩ = some (.int .i64 e)) ((repeat' apply And.intro) <;> ((repeat (first | with_reducible assumption | with_reducible refine drew_keeps ?_)); done)) (first | (go_at_call 94; (with_reducible refine (frames22_out (a := a) (e := e) (start := start) (hA.up (hG.out.trans gF)) hsm.i64).mono ?_); rw [HO.out]; rintro r v3 ⟨AF, cF, SF, rfl, hHF, hSF, hgF⟩; have y0 := grow_cell (Gro.trans (b := _) gF hgF) y0; have y1 := grow_cell (Gro.trans (b := _) gF hgF) y1; have y2 := grow_cell (Gro.trans (b := _) gF hgF) y2; have y3 := grow_cell (Gro.trans (b := _) gF hgF) y3; have xc := grow_cell (Gro.trans (b := _) gF hgF) xc))
              go_wp2_with (refine wpList_append_hasl (L := (outw vs).length + (o.getD []).length) rfl (.tmp 57) (.tmp 58) elFrame flatFrame (S := S) (hH.out.gro (Gro.trans (b := _) gF (hgF.trans gF))) (Ty.up _ hHF.read gF) rfl rfl rfl rfl (by omega) (by omega) ?_; intro A8 c8 W8 S8 hon hH8 hS8)
              go_roundw
              case measure => (simp [intOf]; try omega)
              case rel =>
                have hg9 : Gro wr v3 := Gro.trans (b := _) gF hgF
                have hw2 : wr.heap.size ≤ v3.heap.size := hg9.size
                have hdr : vs.length + k + 1 = es.length := HVL.out
                refine ⟨k, (k : Int) - 1, o.getD [] :: vs, o.isSome, A8, c8, S8, rfl, by rw [outw_cons, List.length_append], by go_num, by omega, rfl, Lib.hid (by simp only [List.length_cons]; omega), by rw [outw_cons, List.length_append]; simp only [List.length_cons]; omega, Lib.hid (by rw [HVA.out, ← HVS.out]), Lib.hid (by have h := HOK.out; rw [Bool.and_eq_true] at h; rw [HAL.out, h.1, h.2]; simp), Lib.hid (hon.gro (hG.out.trans (hg9.trans gF)) hS.out), Lib.hid (hon.gro (hG2.out.trans (hg9.trans gF)) hS2.out), Lib.hid (frz_thru hB.out (hg9.trans gF) hon (fun hm => by have := hS2.out _ hm; have := hg02; omega)), Lib.hid (by rw [outw_cons]; simpa [List.length_append] using hH8), Lib.hid (fun b hb => ?_), Lib.hid (fun b hb => ?_)⟩
                · rcases hS8 b hb with h | h
                  · exact hS.out b h
                  · (try simp at h); have := hG.out.size; omega
                · rcases hS8 b hb with h | h
                  · exact hS2.out b h
                  · (try simp at h); have := hG2.out.size; omega
      
          · obtain rfl : j = 0 := by omega
            have hi0 : ¬ (0 ≤ i) := by omega
            clear hji
            have HE : Hid (stackOf a x start = (outw vs, true)) := Lib.hid (by
              have h := HOK.out
              have h2 := HVS.out
              rw [List.drop_zero] at h h2
              rw [Bool.and_eq_true] at h
              rw [HF2.out, if_pos ⟨h.1, h.2⟩, h2])
            go_wp2_with (fail)
            exact bodyPost_ret (v := .tuple #[.slice A5 (outw vs).length c5, .bool true]) (by simp [results, Tryz.results24, go_sem]) rfl (RetPs.mk hH.out HE.out.symm rfl hS.out (hG.out.trans gG))
end Go.Proofs.YtgodpjnbhmahaaaGreat
namespace Go.Proofs.YtgodpjnbhmahaaaGreat
open Go.RowKit
theorem cntL_le {α : Type} {f g : α → Nat} {k : Nat} (h : ∀ x, f x ≤ k * (1 + g x)) (xs : List α) : cntL f xs ≤ k * szL g xs := by
  unfold cntL szL
  induction xs with
  | nil => simp
  | cons x xs ih =>
    simp only [List.map_cons, List.sum_cons, List.length_cons]
    have h1 := h x
    rw [Nat.mul_add] at *
    have e1 : k * (xs.length + 1) = k * xs.length + k := by rw [Nat.mul_add, Nat.mul_one]
    have e2 : k * (g x + (xs.map g).sum) = k * g x + k * (xs.map g).sum := Nat.mul_add _ _ _
    omega
theorem cntSpace_sz (x : DSpace) : cntSpace x ≤ 5 * szSpace x := by
  have hi := cntL_le (f := cntEImage) (g := szImage) (k := 3) (fun m => by unfold cntEImage szImage szL cntSymbolS; omega) x.Images
  unfold cntSpace cntImageS szSpace
  omega
end Go.Proofs.YtgodpjnbhmahaaaGreat
namespace Go.Proofs.YtgodpjnbhmahaaaGreat
open Go.RowKit
theorem cntAgent_sz (x : DAgent) : cntAgent x ≤ 6 * szAgent x := by
  have h1 := cntSpace_sz x.Space
  have h2 := cntL_le (f := cntEDebug) (g := szDebug) (k := 5) (fun m => by unfold cntEDebug szDebug szL cntSymbolS cntRuleS cntRowS cntInlineS; omega) x.Debugs
  unfold cntAgent szAgent cntDebugS
  unfold szL
  unfold szL at h2
  omega
theorem agent_inl {a : DAgent} (h : szAgent a ≤ 1048576) : ∀ d ∈ a.Debugs, d.Inlines.length ≤ 1048576 := fun d hd => by
  obtain ⟨j, hj⟩ := List.getElem?_of_mem hd
  have h1 := szL_elem szDebug hj
  have h2 := szL_len szInline d.Inlines
  have h3 : d.Inlines.length ≤ szDebug d := by unfold szDebug; omega
  unfold szAgent at h
  omega
theorem agent_sp {a : DAgent} (h : szAgent a ≤ 1048576) : szSpace a.Space ≤ 1099511627776 := by
  unfold szAgent at h
  omega
theorem sample_wd {x : DSample} (h : szSample x ≤ 1048576) : x.View.Words.length ≤ 1099511627776 := by
  unfold szSample szView at h
  omega
theorem outw_len : ∀ (l : List (List DFrame)) (n : Nat), (∀ f ∈ l, f.length ≤ n) → (outw l).length ≤ n * l.length
  | [], n, _ => by simp [outw]
  | f :: l, n, h => by
    rw [outw_cons, List.length_append]
    have h1 := h f (.head _)
    have h2 := outw_len l n (fun g hg => h g (.tail _ hg))
    simp only [List.length_cons, Nat.mul_succ]
    omega
theorem stackOf_len {a : DAgent} (x : DSample) (start : Bool) (h : szAgent a ≤ 1048576) : (stackOf a x start).1.length ≤ 42000000 := by
  unfold stackOf
  split
  · rename_i hc
    rcases known_all (a := a) (start := start) (unwA a x).1 0 with ⟨_, hkv, _⟩ | ⟨hal, _⟩
    · simp only
      rw [← hkv]
      have h1 := outw_len (knownGo a start (unwA a x).1 0) 1048577 (knownGo_el (agent_inl h) _ _)
      have h2 := knownGo_len (a := a) (start := start) (unwA a x).1 0
      have h3 := unwA_len (a := a) (x := x)
      have h4 : 1048577 * (knownGo a start (unwA a x).1 0).length ≤ 1048577 * 40 := Nat.mul_le_mul_left _ (by omega)
      omega
    · rw [hal] at hc
      cases hc.2.2.2
  · simp
def RetStk (p : List DFrame × Bool) (w : World) (r : Ending) (w' : World) : Prop := ∃ A c, r = .returned (.tuple #[.slice A p.1.length c, .bool p.2]) ∧ Fresh (tFrame.sl 59) w w' [.slice A p.1.length c] p.1 ∧ Gro w w'
section
variable {a : DAgent} {x : DSample} {start : Bool} {w : World} {A0 A1 A2 A3 A4 : Option Addr} {c0 c1 c2 c3 c4 : Nat}
theorem stackL_i (h0 : (tImage.sl 113).R w w.heap.size [.slice A0 a.Space.Images.length c0] a.Space.Images) (h1 : (intT.sl 3).R w w.heap.size [.slice A1 a.Space.Bases.length c1] a.Space.Bases)
    (h2 : (intT.sl 3).R w w.heap.size [.slice A2 a.Space.Entries.length c2] a.Space.Entries) (h3 : (tDebug.sl 97).R w w.heap.size [.slice A3 a.Debugs.length c3] a.Debugs) (h4 : (intT.sl 3).R w w.heap.size [.slice A4 x.View.Words.length c4] x.View.Words) (ha : szAgent a ≤ 1048576) (hx : szSample x ≤ 1048576) :
    Calls Tryz.prog 23 #[.agg #[.slice A0 a.Space.Images.length c0, .slice A1 a.Space.Bases.length c1, .slice A2 a.Space.Entries.length c2, .slice A3 a.Debugs.length c3], .agg #[.int .i64 x.Thread, .int .i64 x.View.Pc, .int .i64 x.View.Sp, .int .i64 x.View.Fp, .slice A4 x.View.Words.length c4], .bool start] w (RetStk (stackOf a x start) w) :=
  (stackOf_i h0 h1 h2 h3 h4 (agent_sp ha) (agent_inl ha) (sample_wd hx)).mono fun _ _ ⟨A, c, _, h5, h6, h7, h8⟩ => ⟨A, c, h5, h6.fresh h7, h8⟩
theorem stackL_s (h0 : (tImage.sl 113).R w w.heap.size [.slice A0 a.Space.Images.length c0] a.Space.Images) (h1 : (intT.sl 3).R w w.heap.size [.slice A1 a.Space.Bases.length c1] a.Space.Bases)
    (h2 : (intT.sl 3).R w w.heap.size [.slice A2 a.Space.Entries.length c2] a.Space.Entries) (h3 : (tDebug.sl 97).R w w.heap.size [.slice A3 a.Debugs.length c3] a.Debugs) (h4 : (intT.sl 3).R w w.heap.size [.slice A4 x.View.Words.length c4] x.View.Words) (ha : szAgent a ≤ 1048576) (hx : szSample x ≤ 1048576) :
    Calls Tryz.prog 24 #[.agg #[.slice A0 a.Space.Images.length c0, .slice A1 a.Space.Bases.length c1, .slice A2 a.Space.Entries.length c2, .slice A3 a.Debugs.length c3], .agg #[.int .i64 x.Thread, .int .i64 x.View.Pc, .int .i64 x.View.Sp, .int .i64 x.View.Fp, .slice A4 x.View.Words.length c4], .bool start] w (RetStk (stackOf a x start) w) :=
  (stackOf_s h0 h1 h2 h3 h4 (agent_sp ha) (agent_inl ha) (sample_wd hx)).mono fun _ _ ⟨A, c, _, h5, h6, h7, h8⟩ => ⟨A, c, h5, h6.fresh h7, h8⟩
end
end Go.Proofs.YtgodpjnbhmahaaaGreat
namespace Go.Proofs.YtgodpjnbhmahaaaGreat.fnExactStackOf
open Go.ChangeShapes Go.WideShapes Go.ChangeAt Go.RowKit
open Go.ChangeMaps (open_string shut_string)
theorem own : ownKnob Tryz.prog.godebug = none := by kernel_rfl
theorem laidOut : laidOutB Tryz.prog = true := by kernel_rfl
theorem rdAgent {w : World} {B : Nat} {x : DAgent} {A0 : Option Addr} {c0 : Nat} {A1 : Option Addr} {c1 : Nat} {A2 : Option Addr} {c2 : Nat} {A3 : Option Addr} {c3 : Nat} (h : tAgent.R w B [.slice A0 x.Space.Images.length c0, .slice A1 x.Space.Bases.length c1, .slice A2 x.Space.Entries.length c2, .slice A3 x.Debugs.length c3] x) : (tImage.sl 113).R w B [.slice A0 x.Space.Images.length c0] x.Space.Images ∧ (intT.sl 3).R w B [.slice A1 x.Space.Bases.length c1] x.Space.Bases ∧ (intT.sl 3).R w B [.slice A2 x.Space.Entries.length c2] x.Space.Entries ∧ (tDebug.sl 97).R w B [.slice A3 x.Debugs.length c3] x.Debugs := by
  obtain ⟨A0', c0', A1', c1', A2', c2', A3', c3', hc, f0, f1, f2, f3⟩ := tAgent_R h
  simp only [List.cons.injEq, Value.slice.injEq, true_and, and_true] at hc
  obtain ⟨⟨rfl, rfl⟩, ⟨rfl, rfl⟩, ⟨rfl, rfl⟩, ⟨rfl, rfl⟩⟩ := hc
  exact ⟨f0, f1, f2, f3⟩
theorem rdSample {w : World} {B : Nat} {x : DSample} {A0 : Option Addr} {c0 : Nat} (h : tSample.R w B [.int .i64 x.Thread, .int .i64 x.View.Pc, .int .i64 x.View.Sp, .int .i64 x.View.Fp, .slice A0 x.View.Words.length c0] x) : I64 x.Thread ∧ I64 x.View.Pc ∧ I64 x.View.Sp ∧ I64 x.View.Fp ∧ (intT.sl 3).R w B [.slice A0 x.View.Words.length c0] x.View.Words := by
  obtain ⟨A0', c0', hc, f0, f1, f2, f3, f4⟩ := tSample_R h
  simp only [List.cons.injEq, Value.slice.injEq, true_and, and_true] at hc
  obtain ⟨rfl, rfl⟩ := hc
  exact ⟨f0, f1, f2, f3, f4⟩
set_option maxRecDepth 100000 in
set_option maxHeartbeats 4000000 in
theorem walk (w : World) (cs_a : Array Value) (a : DAgent) (h_a : tAgent.R w w.heap.size cs_a.toList a) (cs_x : Array Value) (x : DSample) (h_x : tSample.R w w.heap.size cs_x.toList x) (st : Bool) :
    Calls Tryz.prog 6 #[.agg cs_a, .agg cs_x, .bool st] w fun e w' => e = .returned (.bool true) ∧ Gro w w' := by
  obtain ⟨A0, c0, A1, c1, A2, c2, A3, c3, hcs_a, p_a0, p_a1, p_a2, p_a3⟩ := tAgent_R h_a
  obtain rfl := Array.toList_inj.1 (show cs_a.toList = (#[.slice A0 a.Space.Images.length c0, .slice A1 a.Space.Bases.length c1, .slice A2 a.Space.Entries.length c2, .slice A3 a.Debugs.length c3] : Array Value).toList from hcs_a)
  clear h_a hcs_a
  obtain ⟨A4, c4, hcs_x, p_x0, p_x1, p_x2, p_x3, p_x4⟩ := tSample_R h_x
  obtain rfl := Array.toList_inj.1 (show cs_x.toList = (#[.int .i64 x.Thread, .int .i64 x.View.Pc, .int .i64 x.View.Sp, .int .i64 x.View.Fp, .slice A4 x.View.Words.length c4] : Array Value).toList from hcs_x)
  clear h_x hcs_x
  obtain ⟨n0, hn0⟩ : ∃ n, szAgent a = n := ⟨_, rfl⟩
  obtain ⟨n1, hn1⟩ : ∃ n, szSample x = n := ⟨_, rfl⟩
  by_cases hz0 : (n0 : Int) ≤ 1048576
  case neg =>
    have e0 : szRes (1048576) (szAgent a) = -1 := by rw [hn0]; exact if_neg (by omega)
    clear hn0 hn1
    go_enter Tryz.func6, Tryz.ntmps6
    go_wp2_with (fail)
    refine (szAgent_l (x := a) (Ty.up _ p_a0 gG) (Ty.up _ p_a1 gG) (Ty.up _ p_a2 gG) (Ty.up _ p_a3 gG) (by omega) (by omega)).mono ?_
    rintro e w1 ⟨rfl, os0, d0, rfl⟩
    go_wp2
    go_ret
    exact ⟨rfl, gG⟩
  by_cases hz1 : (n0 : Int) + (n1 : Int) ≤ 1048576
  case neg =>
    have e0 : szRes (1048576) (szAgent a) = 1048576 - (n0 : Int) := by rw [hn0]; exact if_pos (by omega)
    have e1 : szRes (1048576 - (n0 : Int)) (szSample x) = -1 := by rw [hn1]; exact if_neg (by omega)
    clear hn0 hn1
    go_enter Tryz.func6, Tryz.ntmps6
    go_wp2_with (fail)
    refine (szAgent_l (x := a) (Ty.up _ p_a0 gG) (Ty.up _ p_a1 gG) (Ty.up _ p_a2 gG) (Ty.up _ p_a3 gG) (by omega) (by omega)).mono ?_
    rintro e w1 ⟨rfl, os0, d0, rfl⟩
    go_wp2_with (fail)
    refine (szSample_l (x := x) (Ty.up _ p_x4 gG) (by omega) (by omega)).mono ?_
    rintro e w1 ⟨rfl, os1, d1, rfl⟩
    go_wp2
    go_ret
    exact ⟨rfl, gG⟩
  have e0 : szRes (1048576) (szAgent a) = 1048576 - (n0 : Int) := by rw [hn0]; exact if_pos (by omega)
  have e1 : szRes (1048576 - (n0 : Int)) (szSample x) = 1048576 - (n0 : Int) - (n1 : Int) := by rw [hn1]; exact if_pos (by omega)
  have hl_a0 : a.Space.Images.length ≤ 1048576 := by have h := hn0; unfold szAgent szSpace at h; have := szL_len szImage a.Space.Images; omega
  have hl_a1 : a.Space.Bases.length ≤ 1048576 := by have h := hn0; unfold szAgent szSpace at h; omega
  have hl_a2 : a.Space.Entries.length ≤ 1048576 := by have h := hn0; unfold szAgent szSpace at h; omega
  have hl_a3 : a.Debugs.length ≤ 1048576 := by have h := hn0; unfold szAgent szSpace at h; have := szL_len szDebug a.Debugs; omega
  have hs_a : szAgent a ≤ 1048576 := by omega
  have hl_x0 : x.View.Words.length ≤ 1048576 := by have h := hn1; unfold szSample szView at h; omega
  have hs_x : szSample x ≤ 1048576 := by omega
  have hcnt_a : cntAgent a ≤ 8388608 := by have := cntAgent_sz a; omega
  have hcnt_x : cntSample x ≤ 8388608 := by unfold cntSample cntView; omega
  have HSA := Lib.hid hs_a
  have HSX := Lib.hid hs_x
  have HN0 := Lib.hid hn0
  have HN1 := Lib.hid hn1
  clear hn0 hn1
  obtain ⟨p, hp, hpb0⟩ : ∃ p, Hid (stackOf a x st = p) ∧ p.1.length ≤ 42000000 ∧ cntFrameS p.1 ≤ 84000000 := ⟨_, Lib.hid rfl, by have := stackOf_len x st HSA.out; unfold cntFrameS; omega⟩
  go_enter Tryz.func6, Tryz.ntmps6
  go_wp2_with (fail)
  refine (szAgent_l (x := a) (Ty.up _ p_a0 gG) (Ty.up _ p_a1 gG) (Ty.up _ p_a2 gG) (Ty.up _ p_a3 gG) (by omega) (by omega)).mono ?_
  rintro e w1 ⟨rfl, os0, d0, rfl⟩
  go_wp2_with (fail)
  refine (szSample_l (x := x) (Ty.up _ p_x4 gG) (by omega) (by omega)).mono ?_
  rintro e w1 ⟨rfl, os1, d1, rfl⟩
  go_wp2_with (fail)
  go_region_held3 (fun w' => w'.cell? ⟨w.heap.size, 0, none⟩ = some (.slice A0 a.Space.Images.length c0) ∧ w'.cell? ⟨w.heap.size, 1, none⟩ = some (.slice A1 a.Space.Bases.length c1) ∧ w'.cell? ⟨w.heap.size, 2, none⟩ = some (.slice A2 a.Space.Entries.length c2) ∧ w'.cell? ⟨w.heap.size, 3, none⟩ = some (.slice A3 a.Debugs.length c3) ∧ w'.cell? ⟨w.heap.size + 1, 0, none⟩ = some (.int .i64 x.Thread) ∧ w'.cell? ⟨w.heap.size + 1, 1, none⟩ = some (.int .i64 x.View.Pc) ∧ w'.cell? ⟨w.heap.size + 1, 2, none⟩ = some (.int .i64 x.View.Sp) ∧ w'.cell? ⟨w.heap.size + 1, 3, none⟩ = some (.int .i64 x.View.Fp) ∧ w'.cell? ⟨w.heap.size + 1, 4, none⟩ = some (.slice A4 x.View.Words.length c4)) ((repeat' apply And.intro) <;> (first | ((repeat (first | assumption | with_reducible refine gro_keeps ?_ _ _ | with_reducible refine alloc_keeps ?_ _ | with_reducible refine drew_keeps ?_)); done) | (simp [go_sem]; done))) (first
      | (go_at_call 32; (with_reducible refine (toAgent_l (x := a) (Ty.up _ p_a0 gG) (Ty.up _ p_a1 gG) (Ty.up _ p_a2 gG) (Ty.up _ p_a3 gG) (by omega)).mono ?_); rintro e w1 ⟨A3_0, c3_0, A3_1, c3_1, A3_2, c3_2, A3_3, c3_3, rfl, hF3, os3, d3, rfl⟩)
      | (go_at_call 33; (with_reducible refine (toSample_l (x := x) p_x0 p_x1 p_x2 p_x3 (Ty.up _ p_x4 gG) (by omega)).mono ?_); rintro e w1 ⟨A4_0, c4_0, rfl, hF4, os4, d4, rfl⟩)
      | (go_at_call 24; (with_reducible refine (stackL_s (a := a) (x := x) (start := st) (Ty.up _ (rdAgent hF3.read).1 gG) (Ty.up _ (rdAgent hF3.read).2.1 gG) (Ty.up _ (rdAgent hF3.read).2.2.1 gG) (Ty.up _ (rdAgent hF3.read).2.2.2 gG) (Ty.up _ (rdSample hF4.read).2.2.2.2 gG) HSA.out HSX.out).mono ?_); rw [hp.out]; rintro e w1 ⟨B5_0, e5_0, rfl, hR5, os5, d5, rfl⟩))
  go_wp2_with (fail)
  refine (toAgent_l (x := a) (Ty.up _ p_a0 gG) (Ty.up _ p_a1 gG) (Ty.up _ p_a2 gG) (Ty.up _ p_a3 gG) (by omega)).mono ?_
  rintro e w1 ⟨A6_0, c6_0, A6_1, c6_1, A6_2, c6_2, A6_3, c6_3, rfl, hF6, os6, d6, rfl⟩
  go_wp2_with (fail)
  refine (toSample_l (x := x) p_x0 p_x1 p_x2 p_x3 (Ty.up _ p_x4 gG) (by omega)).mono ?_
  rintro e w1 ⟨A7_0, c7_0, rfl, hF7, os7, d7, rfl⟩
  go_wp2_with (fail)
  refine (stackL_i (a := a) (x := x) (start := st) (Ty.up _ (rdAgent hF6.read).1 gG) (Ty.up _ (rdAgent hF6.read).2.1 gG) (Ty.up _ (rdAgent hF6.read).2.2.1 gG) (Ty.up _ (rdAgent hF6.read).2.2.2 gG) (Ty.up _ (rdSample hF7.read).2.2.2.2 gG) HSA.out HSX.out).mono ?_
  rw [hp.out]
  rintro e w1 ⟨B8_0, e8_0, rfl, hR8, os8, d8, rfl⟩
  go_wp2_with (fail)
  refine (eqFrameS_l (xs := p.1) (ys := p.1) (Ty.up _ hR8.read gG) (Ty.up _ hR5.read gG)).mono ?_
  rintro e w1 ⟨rfl, os9, d9, rfl⟩
  go_wp2_with (fail)
  go_region_held3 (fun w' => w'.cell? ⟨w.heap.size + 1 + 1 + os0.size + os1.size + os3.size + os4.size + os5.size + os6.size, 0, none⟩ = some (.slice A6_0 a.Space.Images.length c6_0) ∧ w'.cell? ⟨w.heap.size + 1 + 1 + os0.size + os1.size + os3.size + os4.size + os5.size + os6.size, 1, none⟩ = some (.slice A6_1 a.Space.Bases.length c6_1) ∧ w'.cell? ⟨w.heap.size + 1 + 1 + os0.size + os1.size + os3.size + os4.size + os5.size + os6.size, 2, none⟩ = some (.slice A6_2 a.Space.Entries.length c6_2) ∧ w'.cell? ⟨w.heap.size + 1 + 1 + os0.size + os1.size + os3.size + os4.size + os5.size + os6.size, 3, none⟩ = some (.slice A6_3 a.Debugs.length c6_3) ∧ w'.cell? ⟨w.heap.size, 0, none⟩ = some (.slice A0 a.Space.Images.length c0) ∧ w'.cell? ⟨w.heap.size, 1, none⟩ = some (.slice A1 a.Space.Bases.length c1) ∧ w'.cell? ⟨w.heap.size, 2, none⟩ = some (.slice A2 a.Space.Entries.length c2) ∧ w'.cell? ⟨w.heap.size, 3, none⟩ = some (.slice A3 a.Debugs.length c3)) (simp [go_sem]) (first
      | (go_at_call 32; refine (toAgent_l (x := a) (Ty.up _ p_a0 gG) (Ty.up _ p_a1 gG) (Ty.up _ p_a2 gG) (Ty.up _ p_a3 gG) (by omega)).mono ?_; rintro e w1 ⟨A10_0, c10_0, A10_1, c10_1, A10_2, c10_2, A10_3, c10_3, rfl, hF10, os10, d10, rfl⟩)
      | (go_at_call 35; refine (eqAgent_l (x := a) (y := a) (Ty.up _ (rdAgent hF6.read).1 gG) (Ty.up _ (rdAgent hF6.read).2.1 gG) (Ty.up _ (rdAgent hF6.read).2.2.1 gG) (Ty.up _ (rdAgent hF6.read).2.2.2 gG) (Ty.up _ (rdAgent hF10.read).1 gG) (Ty.up _ (rdAgent hF10.read).2.1 gG) (Ty.up _ (rdAgent hF10.read).2.2.1 gG) (Ty.up _ (rdAgent hF10.read).2.2.2 gG)).mono ?_; rintro e w1 ⟨rfl, os11, d11, rfl⟩))
  go_wp2_with (fail)
  go_region_held3 (fun w' => w'.cell? ⟨w.heap.size + 1 + 1 + os0.size + os1.size + os3.size + os4.size + os5.size + os6.size + 1 + os7.size, 0, none⟩ = some (.int .i64 x.Thread) ∧ w'.cell? ⟨w.heap.size + 1 + 1 + os0.size + os1.size + os3.size + os4.size + os5.size + os6.size + 1 + os7.size, 1, none⟩ = some (.int .i64 x.View.Pc) ∧ w'.cell? ⟨w.heap.size + 1 + 1 + os0.size + os1.size + os3.size + os4.size + os5.size + os6.size + 1 + os7.size, 2, none⟩ = some (.int .i64 x.View.Sp) ∧ w'.cell? ⟨w.heap.size + 1 + 1 + os0.size + os1.size + os3.size + os4.size + os5.size + os6.size + 1 + os7.size, 3, none⟩ = some (.int .i64 x.View.Fp) ∧ w'.cell? ⟨w.heap.size + 1 + 1 + os0.size + os1.size + os3.size + os4.size + os5.size + os6.size + 1 + os7.size, 4, none⟩ = some (.slice A7_0 x.View.Words.length c7_0) ∧ w'.cell? ⟨w.heap.size + 1, 0, none⟩ = some (.int .i64 x.Thread) ∧ w'.cell? ⟨w.heap.size + 1, 1, none⟩ = some (.int .i64 x.View.Pc) ∧ w'.cell? ⟨w.heap.size + 1, 2, none⟩ = some (.int .i64 x.View.Sp) ∧ w'.cell? ⟨w.heap.size + 1, 3, none⟩ = some (.int .i64 x.View.Fp) ∧ w'.cell? ⟨w.heap.size + 1, 4, none⟩ = some (.slice A4 x.View.Words.length c4)) (simp [go_sem]) (first
      | (go_at_call 33; refine (toSample_l (x := x) p_x0 p_x1 p_x2 p_x3 (Ty.up _ p_x4 gG) (by omega)).mono ?_; rintro e w1 ⟨A12_0, c12_0, rfl, hF12, os12, d12, rfl⟩)
      | (go_at_call 36; refine (eqSample_l (x := x) (y := x) (Ty.up _ (rdSample hF7.read).2.2.2.2 gG) (Ty.up _ (rdSample hF12.read).2.2.2.2 gG)).mono ?_; rintro e w1 ⟨rfl, os13, d13, rfl⟩))
  go_wp2_with (fail)
  obtain ⟨S_w0, hO_w0, hN_w0, hL_w0⟩ := hR5
  have hU_w0 := Ty.ltO _ hO_w0
  obtain ⟨S_x_a, hO_x_a, hN_x_a, hL_x_a⟩ := hF6
  have hU_x_a := Ty.ltO _ hO_x_a
  obtain ⟨S_x_x, hO_x_x, hN_x_x, hL_x_x⟩ := hF7
  have hU_x_x := Ty.ltO _ hO_x_x
  obtain ⟨S_g0, hO_g0, hN_g0, hL_g0⟩ := hR8
  have hU_g0 := Ty.ltO _ hO_g0
  go_wp2_with (fail)
  refine (markAgent_l (x := a) (Ty.groO _ hO_x_a gG) hN_x_a (by omega) (by omega)).mono ?_
  rintro e w14 ⟨rfl, hM_x_a, hS14⟩
  have hO_w0_14 := keepOnly _ hO_w0 hS14 gG (fun b hb hm => by have q1 := hU_w0 b hb; have q2 := hL_x_a b hm; simp at q1 q2; omega)
  have hO_x_x_14 := keepOnly _ hO_x_x hS14 gG (fun b hb hm => by have q1 := hL_x_x b hb; have q2 := hU_x_a b hm; simp at q1 q2; omega)
  have hO_g0_14 := keepOnly _ hO_g0 hS14 gG (fun b hb hm => by have q1 := hL_g0 b hb; have q2 := hU_x_a b hm; simp at q1 q2; omega)
  have hc14_a_0 : w14.cell? ⟨w.heap.size, 0, none⟩ = some (.slice A0 a.Space.Images.length c0) := (hS14.cell (by simp <;> omega) (fun hm => by have q1 := hL_x_a _ hm; simp at q1 <;> omega) 0).trans (by simp [go_sem])
  have hc14_a_1 : w14.cell? ⟨w.heap.size, 1, none⟩ = some (.slice A1 a.Space.Bases.length c1) := (hS14.cell (by simp <;> omega) (fun hm => by have q1 := hL_x_a _ hm; simp at q1 <;> omega) 1).trans (by simp [go_sem])
  have hc14_a_2 : w14.cell? ⟨w.heap.size, 2, none⟩ = some (.slice A2 a.Space.Entries.length c2) := (hS14.cell (by simp <;> omega) (fun hm => by have q1 := hL_x_a _ hm; simp at q1 <;> omega) 2).trans (by simp [go_sem])
  have hc14_a_3 : w14.cell? ⟨w.heap.size, 3, none⟩ = some (.slice A3 a.Debugs.length c3) := (hS14.cell (by simp <;> omega) (fun hm => by have q1 := hL_x_a _ hm; simp at q1 <;> omega) 3).trans (by simp [go_sem])
  have hcb_a : w.heap.size < w14.heap.size := Nat.lt_of_lt_of_le (by simp <;> omega) hS14.size
  have hc14_x_0 : w14.cell? ⟨w.heap.size + 1, 0, none⟩ = some (.int .i64 x.Thread) := (hS14.cell (by simp <;> omega) (fun hm => by have q1 := hL_x_a _ hm; simp at q1 <;> omega) 0).trans (by simp [go_sem])
  have hc14_x_1 : w14.cell? ⟨w.heap.size + 1, 1, none⟩ = some (.int .i64 x.View.Pc) := (hS14.cell (by simp <;> omega) (fun hm => by have q1 := hL_x_a _ hm; simp at q1 <;> omega) 1).trans (by simp [go_sem])
  have hc14_x_2 : w14.cell? ⟨w.heap.size + 1, 2, none⟩ = some (.int .i64 x.View.Sp) := (hS14.cell (by simp <;> omega) (fun hm => by have q1 := hL_x_a _ hm; simp at q1 <;> omega) 2).trans (by simp [go_sem])
  have hc14_x_3 : w14.cell? ⟨w.heap.size + 1, 3, none⟩ = some (.int .i64 x.View.Fp) := (hS14.cell (by simp <;> omega) (fun hm => by have q1 := hL_x_a _ hm; simp at q1 <;> omega) 3).trans (by simp [go_sem])
  have hc14_x_4 : w14.cell? ⟨w.heap.size + 1, 4, none⟩ = some (.slice A4 x.View.Words.length c4) := (hS14.cell (by simp <;> omega) (fun hm => by have q1 := hL_x_a _ hm; simp at q1 <;> omega) 4).trans (by simp [go_sem])
  have hcb_x : w.heap.size + 1 < w14.heap.size := Nat.lt_of_lt_of_le (by simp <;> omega) hS14.size
  have hc14_x_x_0 : w14.cell? ⟨w.heap.size + 1 + 1 + os0.size + os1.size + os3.size + os4.size + os5.size + os6.size + 1 + os7.size, 0, none⟩ = some (.int .i64 x.Thread) := (hS14.cell (by simp <;> omega) (fun hm => by have q1 := hU_x_a _ hm; simp at q1 <;> omega) 0).trans (by simp [go_sem])
  have hc14_x_x_1 : w14.cell? ⟨w.heap.size + 1 + 1 + os0.size + os1.size + os3.size + os4.size + os5.size + os6.size + 1 + os7.size, 1, none⟩ = some (.int .i64 x.View.Pc) := (hS14.cell (by simp <;> omega) (fun hm => by have q1 := hU_x_a _ hm; simp at q1 <;> omega) 1).trans (by simp [go_sem])
  have hc14_x_x_2 : w14.cell? ⟨w.heap.size + 1 + 1 + os0.size + os1.size + os3.size + os4.size + os5.size + os6.size + 1 + os7.size, 2, none⟩ = some (.int .i64 x.View.Sp) := (hS14.cell (by simp <;> omega) (fun hm => by have q1 := hU_x_a _ hm; simp at q1 <;> omega) 2).trans (by simp [go_sem])
  have hc14_x_x_3 : w14.cell? ⟨w.heap.size + 1 + 1 + os0.size + os1.size + os3.size + os4.size + os5.size + os6.size + 1 + os7.size, 3, none⟩ = some (.int .i64 x.View.Fp) := (hS14.cell (by simp <;> omega) (fun hm => by have q1 := hU_x_a _ hm; simp at q1 <;> omega) 3).trans (by simp [go_sem])
  have hc14_x_x_4 : w14.cell? ⟨w.heap.size + 1 + 1 + os0.size + os1.size + os3.size + os4.size + os5.size + os6.size + 1 + os7.size, 4, none⟩ = some (.slice A7_0 x.View.Words.length c7_0) := (hS14.cell (by simp <;> omega) (fun hm => by have q1 := hU_x_a _ hm; simp at q1 <;> omega) 4).trans (by simp [go_sem])
  have hcb_x_x : w.heap.size + 1 + 1 + os0.size + os1.size + os3.size + os4.size + os5.size + os6.size + 1 + os7.size < w14.heap.size := Nat.lt_of_lt_of_le (by simp <;> omega) hS14.size
  obtain ⟨os14, d14, rfl⟩ := hS14.gro (W0 := w) gG (fun b hb => by have q1 := hL_x_a b hb; simp at q1; omega)
  clear hS14
  simp at hcb_a
  simp at hcb_x
  simp at hcb_x_x
  go_wp2_with (fail)
  refine (markSample_l (x := x) (Ty.groO _ hO_x_x_14 gG) hN_x_x (by omega) (by omega)).mono ?_
  rintro e w15 ⟨rfl, hM_x_x, hS15⟩
  have hO_w0_14_15 := keepOnly _ hO_w0_14 hS15 gG (fun b hb hm => by have q1 := hU_w0 b hb; have q2 := hL_x_x b hm; simp at q1 q2; omega)
  have hO_g0_14_15 := keepOnly _ hO_g0_14 hS15 gG (fun b hb hm => by have q1 := hL_g0 b hb; have q2 := hU_x_x b hm; simp at q1 q2; omega)
  have hc15_a_0 : w15.cell? ⟨w.heap.size, 0, none⟩ = some (.slice A0 a.Space.Images.length c0) := (hS15.cell (by simp <;> omega) (fun hm => by have q1 := hL_x_x _ hm; simp at q1 <;> omega) 0).trans (by first | exact hc14_a_0 | exact gro_keeps hc14_a_0 _ _ | simp [go_sem, hc14_a_0, hcb_a])
  have hc15_a_1 : w15.cell? ⟨w.heap.size, 1, none⟩ = some (.slice A1 a.Space.Bases.length c1) := (hS15.cell (by simp <;> omega) (fun hm => by have q1 := hL_x_x _ hm; simp at q1 <;> omega) 1).trans (by first | exact hc14_a_1 | exact gro_keeps hc14_a_1 _ _ | simp [go_sem, hc14_a_1, hcb_a])
  have hc15_a_2 : w15.cell? ⟨w.heap.size, 2, none⟩ = some (.slice A2 a.Space.Entries.length c2) := (hS15.cell (by simp <;> omega) (fun hm => by have q1 := hL_x_x _ hm; simp at q1 <;> omega) 2).trans (by first | exact hc14_a_2 | exact gro_keeps hc14_a_2 _ _ | simp [go_sem, hc14_a_2, hcb_a])
  have hc15_a_3 : w15.cell? ⟨w.heap.size, 3, none⟩ = some (.slice A3 a.Debugs.length c3) := (hS15.cell (by simp <;> omega) (fun hm => by have q1 := hL_x_x _ hm; simp at q1 <;> omega) 3).trans (by first | exact hc14_a_3 | exact gro_keeps hc14_a_3 _ _ | simp [go_sem, hc14_a_3, hcb_a])
  replace hcb_a : w.heap.size < w15.heap.size := Nat.lt_of_lt_of_le (by simp <;> omega) hS15.size
  have hc15_x_0 : w15.cell? ⟨w.heap.size + 1, 0, none⟩ = some (.int .i64 x.Thread) := (hS15.cell (by simp <;> omega) (fun hm => by have q1 := hL_x_x _ hm; simp at q1 <;> omega) 0).trans (by first | exact hc14_x_0 | exact gro_keeps hc14_x_0 _ _ | simp [go_sem, hc14_x_0, hcb_x])
  have hc15_x_1 : w15.cell? ⟨w.heap.size + 1, 1, none⟩ = some (.int .i64 x.View.Pc) := (hS15.cell (by simp <;> omega) (fun hm => by have q1 := hL_x_x _ hm; simp at q1 <;> omega) 1).trans (by first | exact hc14_x_1 | exact gro_keeps hc14_x_1 _ _ | simp [go_sem, hc14_x_1, hcb_x])
  have hc15_x_2 : w15.cell? ⟨w.heap.size + 1, 2, none⟩ = some (.int .i64 x.View.Sp) := (hS15.cell (by simp <;> omega) (fun hm => by have q1 := hL_x_x _ hm; simp at q1 <;> omega) 2).trans (by first | exact hc14_x_2 | exact gro_keeps hc14_x_2 _ _ | simp [go_sem, hc14_x_2, hcb_x])
  have hc15_x_3 : w15.cell? ⟨w.heap.size + 1, 3, none⟩ = some (.int .i64 x.View.Fp) := (hS15.cell (by simp <;> omega) (fun hm => by have q1 := hL_x_x _ hm; simp at q1 <;> omega) 3).trans (by first | exact hc14_x_3 | exact gro_keeps hc14_x_3 _ _ | simp [go_sem, hc14_x_3, hcb_x])
  have hc15_x_4 : w15.cell? ⟨w.heap.size + 1, 4, none⟩ = some (.slice A4 x.View.Words.length c4) := (hS15.cell (by simp <;> omega) (fun hm => by have q1 := hL_x_x _ hm; simp at q1 <;> omega) 4).trans (by first | exact hc14_x_4 | exact gro_keeps hc14_x_4 _ _ | simp [go_sem, hc14_x_4, hcb_x])
  replace hcb_x : w.heap.size + 1 < w15.heap.size := Nat.lt_of_lt_of_le (by simp <;> omega) hS15.size
  clear hc14_a_0 hc14_a_1 hc14_a_2 hc14_a_3 hc14_x_0 hc14_x_1 hc14_x_2 hc14_x_3 hc14_x_4 hc14_x_x_0 hc14_x_x_1 hc14_x_x_2 hc14_x_x_3 hc14_x_x_4
  obtain ⟨os15, d15, rfl⟩ := hS15.gro (W0 := w) gG (fun b hb => by have q1 := hL_x_x b hb; simp at q1; omega)
  clear hS15
  simp at hcb_a
  simp at hcb_x
  go_wp2_with (fail)
  refine (eqFrameS_l (xs := p.1) (ys := p.1) (Ty.up _ (Ty.read _ hO_g0_14_15) gG) (Ty.up _ (Ty.read _ hO_w0_14_15) gG)).mono ?_
  rintro e w1 ⟨rfl, os16, d16, rfl⟩
  go_wp2_with (fail)
  refine (markFrameS_l (xs := p.1) (Ty.groO _ hO_g0_14_15 gG) hN_g0 (by omega) (by omega)).mono ?_
  rintro e w17 ⟨rfl, hM_g0, hS17⟩
  have hO_w0_14_15_17 := keepOnly _ hO_w0_14_15 hS17 gG (fun b hb hm => by have q1 := hU_w0 b hb; have q2 := hL_g0 b hm; simp at q1 q2; omega)
  have hc17_a_0 : w17.cell? ⟨w.heap.size, 0, none⟩ = some (.slice A0 a.Space.Images.length c0) := (hS17.cell (by simp <;> omega) (fun hm => by have q1 := hL_g0 _ hm; simp at q1 <;> omega) 0).trans (by first | exact hc15_a_0 | exact gro_keeps hc15_a_0 _ _ | simp [go_sem, hc15_a_0, hcb_a])
  have hc17_a_1 : w17.cell? ⟨w.heap.size, 1, none⟩ = some (.slice A1 a.Space.Bases.length c1) := (hS17.cell (by simp <;> omega) (fun hm => by have q1 := hL_g0 _ hm; simp at q1 <;> omega) 1).trans (by first | exact hc15_a_1 | exact gro_keeps hc15_a_1 _ _ | simp [go_sem, hc15_a_1, hcb_a])
  have hc17_a_2 : w17.cell? ⟨w.heap.size, 2, none⟩ = some (.slice A2 a.Space.Entries.length c2) := (hS17.cell (by simp <;> omega) (fun hm => by have q1 := hL_g0 _ hm; simp at q1 <;> omega) 2).trans (by first | exact hc15_a_2 | exact gro_keeps hc15_a_2 _ _ | simp [go_sem, hc15_a_2, hcb_a])
  have hc17_a_3 : w17.cell? ⟨w.heap.size, 3, none⟩ = some (.slice A3 a.Debugs.length c3) := (hS17.cell (by simp <;> omega) (fun hm => by have q1 := hL_g0 _ hm; simp at q1 <;> omega) 3).trans (by first | exact hc15_a_3 | exact gro_keeps hc15_a_3 _ _ | simp [go_sem, hc15_a_3, hcb_a])
  replace hcb_a : w.heap.size < w17.heap.size := Nat.lt_of_lt_of_le (by simp <;> omega) hS17.size
  have hc17_x_0 : w17.cell? ⟨w.heap.size + 1, 0, none⟩ = some (.int .i64 x.Thread) := (hS17.cell (by simp <;> omega) (fun hm => by have q1 := hL_g0 _ hm; simp at q1 <;> omega) 0).trans (by first | exact hc15_x_0 | exact gro_keeps hc15_x_0 _ _ | simp [go_sem, hc15_x_0, hcb_x])
  have hc17_x_1 : w17.cell? ⟨w.heap.size + 1, 1, none⟩ = some (.int .i64 x.View.Pc) := (hS17.cell (by simp <;> omega) (fun hm => by have q1 := hL_g0 _ hm; simp at q1 <;> omega) 1).trans (by first | exact hc15_x_1 | exact gro_keeps hc15_x_1 _ _ | simp [go_sem, hc15_x_1, hcb_x])
  have hc17_x_2 : w17.cell? ⟨w.heap.size + 1, 2, none⟩ = some (.int .i64 x.View.Sp) := (hS17.cell (by simp <;> omega) (fun hm => by have q1 := hL_g0 _ hm; simp at q1 <;> omega) 2).trans (by first | exact hc15_x_2 | exact gro_keeps hc15_x_2 _ _ | simp [go_sem, hc15_x_2, hcb_x])
  have hc17_x_3 : w17.cell? ⟨w.heap.size + 1, 3, none⟩ = some (.int .i64 x.View.Fp) := (hS17.cell (by simp <;> omega) (fun hm => by have q1 := hL_g0 _ hm; simp at q1 <;> omega) 3).trans (by first | exact hc15_x_3 | exact gro_keeps hc15_x_3 _ _ | simp [go_sem, hc15_x_3, hcb_x])
  have hc17_x_4 : w17.cell? ⟨w.heap.size + 1, 4, none⟩ = some (.slice A4 x.View.Words.length c4) := (hS17.cell (by simp <;> omega) (fun hm => by have q1 := hL_g0 _ hm; simp at q1 <;> omega) 4).trans (by first | exact hc15_x_4 | exact gro_keeps hc15_x_4 _ _ | simp [go_sem, hc15_x_4, hcb_x])
  replace hcb_x : w.heap.size + 1 < w17.heap.size := Nat.lt_of_lt_of_le (by simp <;> omega) hS17.size
  clear hc15_a_0 hc15_a_1 hc15_a_2 hc15_a_3 hc15_x_0 hc15_x_1 hc15_x_2 hc15_x_3 hc15_x_4
  obtain ⟨os17, d17, rfl⟩ := hS17.gro (W0 := w) gG (fun b hb => by have q1 := hL_g0 b hb; simp at q1; omega)
  clear hS17
  simp at hcb_a
  simp at hcb_x
  have mkread_g0 := Ty.read _ hM_g0
  go_wp2_with (fail)
  refine (heldFrameS_l (xs := p.1) (Ty.up _ (mkread_g0) gG) (by omega) (by omega)).mono ?_
  rintro e w1 ⟨rfl, os18, d18, rfl⟩
  go_wp2_with (fail)
  go_region_held3 (fun w' => w'.cell? ⟨w.heap.size, 0, none⟩ = some (.slice A0 a.Space.Images.length c0) ∧ w'.cell? ⟨w.heap.size, 1, none⟩ = some (.slice A1 a.Space.Bases.length c1) ∧ w'.cell? ⟨w.heap.size, 2, none⟩ = some (.slice A2 a.Space.Entries.length c2) ∧ w'.cell? ⟨w.heap.size, 3, none⟩ = some (.slice A3 a.Debugs.length c3) ∧ w'.cell? ⟨w.heap.size + 1, 0, none⟩ = some (.int .i64 x.Thread) ∧ w'.cell? ⟨w.heap.size + 1, 1, none⟩ = some (.int .i64 x.View.Pc) ∧ w'.cell? ⟨w.heap.size + 1, 2, none⟩ = some (.int .i64 x.View.Sp) ∧ w'.cell? ⟨w.heap.size + 1, 3, none⟩ = some (.int .i64 x.View.Fp) ∧ w'.cell? ⟨w.heap.size + 1, 4, none⟩ = some (.slice A4 x.View.Words.length c4)) ((repeat' apply And.intro) <;> (first | ((repeat (first | assumption | with_reducible refine gro_keeps ?_ _ _ | with_reducible refine alloc_keeps ?_ _ | with_reducible refine drew_keeps ?_)); done) | (simp [go_sem]; done))) (first
    | (go_at_call 32; (with_reducible refine (toAgent_l (x := a) (Ty.up _ p_a0 gG) (Ty.up _ p_a1 gG) (Ty.up _ p_a2 gG) (Ty.up _ p_a3 gG) (by omega)).mono ?_); rintro e w1 ⟨A19_0, c19_0, A19_1, c19_1, A19_2, c19_2, A19_3, c19_3, rfl, hF19, os19, d19, rfl⟩)
    | (go_at_call 33; (with_reducible refine (toSample_l (x := x) p_x0 p_x1 p_x2 p_x3 (Ty.up _ p_x4 gG) (by omega)).mono ?_); rintro e w1 ⟨A20_0, c20_0, rfl, hF20, os20, d20, rfl⟩)
    | (go_at_call 23; (with_reducible refine (stackL_i (a := a) (x := x) (start := st) (Ty.up _ (rdAgent hF19.read).1 gG) (Ty.up _ (rdAgent hF19.read).2.1 gG) (Ty.up _ (rdAgent hF19.read).2.2.1 gG) (Ty.up _ (rdAgent hF19.read).2.2.2 gG) (Ty.up _ (rdSample hF20.read).2.2.2.2 gG) HSA.out HSX.out).mono ?_); rw [hp.out]; rintro e w1 ⟨B21_0, e21_0, rfl, hR21, os21, d21, rfl⟩))
  go_wp2_with (fail)
  refine (eqFrameS_l (xs := p.1) (ys := p.1) (Ty.up _ hR21.read gG) (Ty.up _ (Ty.read _ hO_w0_14_15_17) gG)).mono ?_
  rintro e w1 ⟨rfl, os22, d22, rfl⟩
  go_wp2_with (fail)
  refine (heldFrameS_l (xs := p.1) (Ty.up _ (mkread_g0) gG) (by omega) (by omega)).mono ?_
  rintro e w1 ⟨rfl, os23, d23, rfl⟩
  go_wp2
  go_ret
  exact ⟨rfl, gG⟩

set_option maxRecDepth 100000 in
theorem lifted (os : Os) (started : os.Started) (H : Type) (enc : TypeId × Value → H) :
    ReturnsInHanded {} Tryz.checked os 6 .any (Rows.fnExactStackOfSpec.pre6 enc Tryz.prog Tryz.f6 Rows.fnExactStackOfRow.domain false) (Rows.fnExactStackOfSpec.post enc Tryz.prog Tryz.f6 false true false false) := by
  refine returnsInHanded_of_change (C := Tryz.checked) own started (by kernel_rfl) Tryz.func6
    (ChangeSpec.witness6 (enc := enc) (C := Tryz.checked) false ⟨#[], #[.agg #[.slice none 0 0, .slice none 0 0, .slice none 0 0, .slice none 0 0], .agg #[.int .i64 0, .int .i64 0, .int .i64 0, .int .i64 0, .slice none 0 0], .bool false], []⟩ 8 (by kernel_rfl) (by kernel_rfl) (by kernel_rfl) (by kernel_rfl)) ?_
  intro W base args ds gs before hval0 hW hcnd _
  have hval : ∀ (j : Nat) t v, Tryz.f6.params[j]? = some t → args[j]? = some v → Value.okWide Tryz.prog W .any base t v := hval0
  have hW' := hW
  obtain ⟨p, q, hA0, hV, rfl, hfz, hnd⟩ := hW
  have hA : DataW.TrodAll enc Tryz.prog W 0 (fun _ => true) true Tryz.f6.params.toList args.toList ds p := hA0
  rw [Tryz.params6] at hA hval
  obtain ⟨v0, vs0, d0, ds0, p0, q0, hargs, rfl, rfl, h0, r0⟩ := trodAll_cons hA
  obtain ⟨v1, vs1, d1, ds1, p1, q1, rfl, rfl, rfl, h1, r1⟩ := trodAll_cons r0
  obtain ⟨v2, vs2, d2, ds2, p2, q2, rfl, rfl, rfl, h2, r2⟩ := trodAll_cons r1
  obtain ⟨rfl, rfl, rfl⟩ := trodAll_nil r2
  obtain rfl : args = #[v0, v1, v2] := by cases args; simp_all
  obtain ⟨rfl, rfl⟩ := trodVars_none hV
  have k0 := h0
  have lt0 : ∀ x ∈ p0, x.block < W.heap.size := by obtain ⟨m, hm⟩ := k0; exact DataW.trod_lt m _ _ _ hm
  obtain ⟨cs0, rfl⟩ := arg_agg Tryz.underlying68 (hval 0 68 v0 rfl rfl)
  obtain ⟨a0, w0⟩ := arg_open tAgent_opens h0
  have k1 := h1
  have lt1 : ∀ x ∈ p1, x.block < W.heap.size := by obtain ⟨m, hm⟩ := k1; exact DataW.trod_lt m _ _ _ hm
  obtain ⟨cs1, rfl⟩ := arg_agg Tryz.underlying71 (hval 1 71 v1 rfl rfl)
  obtain ⟨a1, w1⟩ := arg_open tSample_opens h1
  have k2 := h2
  have lt2 : ∀ x ∈ p2, x.block < W.heap.size := by obtain ⟨m, hm⟩ := k2; exact DataW.trod_lt m _ _ _ hm
  obtain ⟨a2, rfl, rfl, rfl⟩ := open_bool Tryz.underlying4 (hval 2 4 v2 rfl rfl) h2
  clear hA0 hval0
  refine (walk W cs0 a0 w0 cs1 a1 w1 a2).mono fun e W' ⟨he, hgro⟩ => ?_
  subst he
  have bel := hgro.below
  exact ⟨_, rfl, _, _, _, [], _, [], hW', trodAll_mk1 (shut_bool Tryz.underlying4 _), (trodAll_cons_mk (Below.trod laidOut (by kernel_rfl) (of_decide_eq_true (by kernel_rfl)) k0 bel lt0) (trodAll_cons_mk (Below.trod laidOut (by kernel_rfl) (of_decide_eq_true (by kernel_rfl)) k1 bel lt1) (trodAll_cons_mk (Below.trod laidOut (by kernel_rfl) (of_decide_eq_true (by kernel_rfl)) k2 bel lt2) trodAll_mk0))), rfl, bel.frame _, fun h => by cases h⟩
theorem over : Rows.fnExactStackOfRow.holds Tryz.pinned (OpenSpec.ofChange Rows.fnExactStackOfSpec) :=
  OpenClaim.holds_of_wide 6 Tryz.f6 rfl rfl rfl rfl rfl rfl rfl ⟨rfl, rfl, rfl, rfl, rfl⟩ rfl rfl rfl rfl rfl (by kernel_rfl) Tryz.func6 facts
    (of_decide_eq_true (by kernel_rfl)) (by unfold Func.isWrapper; first | (rw [if_pos (by decide +kernel)]; kernel_rfl) | (rw [if_neg (by decide +kernel)]; exact ⟨rfl, rfl⟩))
    (fun os started H enc _ => lifted os started H enc)
/-- THE STATEMENT -/
theorem proved : Rows.FnExactStackOfSaid := over
#print axioms proved
end Go.Proofs.YtgodpjnbhmahaaaGreat.fnExactStackOf
