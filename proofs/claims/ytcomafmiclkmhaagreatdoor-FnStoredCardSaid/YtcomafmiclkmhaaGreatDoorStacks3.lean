/-
  STACKS, PART 3: InternStack of the program and of the reference.
-/
import Derived.Test.YtcomafmiclkmhaaGreatDoorStacks2
import Derived.Test.YtcomafmiclkmhaaGreatDoorAppend2
import Derived.Deep.RegionLaw
import Derived.Deep.RegionHeld3
set_option linter.unusedVariables false
set_option linter.unusedSimpArgs false
namespace Go.Proofs.YtcomafmiclkmhaaGreatDoor
open Go.RowKit
theorem Same.base_box {a b : World} {os os2 : Array Obj} {o : Obj} {d d' d2 d3 n m : Nat} (h : b.heap.size = a.heap.size) (hn : a.heap.size ≤ n) : Same n m (Go.Proofs.YtcomafmiclkmhaaGreatDoor.gro ((Go.Proofs.YtcomafmiclkmhaaGreatDoor.gro a os d).alloc o) os2 d2) (Go.Proofs.YtcomafmiclkmhaaGreatDoor.gro ((Go.Proofs.YtcomafmiclkmhaaGreatDoor.gro b os d').alloc o) os2 d3) := by
  intro k hk _
  simp only [Go.Proofs.YtcomafmiclkmhaaGreatDoor.gro, World.alloc]
  have e : ∀ x : Array Obj, x.size ≤ k → ((x ++ os).push o ++ os2)[k]? = (os.push o ++ os2)[k - x.size]? := by
    intro x hx
    rw [show (x ++ os).push o ++ os2 = x ++ (os.push o ++ os2) from by simp, Array.getElem?_append_right hx]
  rw [e _ (by omega), e _ (by omega), h]
theorem Fr2.base_box {α : Type} {T : Ty α} {a b : World} {os os2 : Array Obj} {o : Obj} {d d' d2 d3 hi n : Nat} {cs : List Value} {x : α} (h : Fr2 T a hi n (Go.Proofs.YtcomafmiclkmhaaGreatDoor.gro ((Go.Proofs.YtcomafmiclkmhaaGreatDoor.gro a os d).alloc o) os2 d2) cs x) (hs : b.heap.size = a.heap.size) (hn : a.heap.size ≤ n) :
    Fr2 T a hi n (Go.Proofs.YtcomafmiclkmhaaGreatDoor.gro ((Go.Proofs.YtcomafmiclkmhaaGreatDoor.gro b os d').alloc o) os2 d3) cs x :=
  h.same (Same.base_box hs (Nat.le_refl _)) (Same.base_box hs hn)
theorem Fr2.rebox {α : Type} {T : Ty α} {W0 X : World} {os os2 : Array Obj} {o o' : Obj} {d d2 hi n : Nat} {cs : List Value} {x : α} (h : Fr2 T W0 hi n (Go.Proofs.YtcomafmiclkmhaaGreatDoor.gro ((Go.Proofs.YtcomafmiclkmhaaGreatDoor.gro X os d).alloc o) os2 d2) cs x) (h1 : hi ≤ X.heap.size + os.size) (h2 : X.heap.size + os.size < n) :
    Fr2 T W0 hi n (Go.Proofs.YtcomafmiclkmhaaGreatDoor.gro ((Go.Proofs.YtcomafmiclkmhaaGreatDoor.gro X os d).alloc o') os2 d2) cs x := by
  have key : ∀ k, k ≠ X.heap.size + os.size → (Go.Proofs.YtcomafmiclkmhaaGreatDoor.gro ((Go.Proofs.YtcomafmiclkmhaaGreatDoor.gro X os d).alloc o') os2 d2).heap[k]? = (Go.Proofs.YtcomafmiclkmhaaGreatDoor.gro ((Go.Proofs.YtcomafmiclkmhaaGreatDoor.gro X os d).alloc o) os2 d2).heap[k]? := by
    intro k hk
    simp only [Go.Proofs.YtcomafmiclkmhaaGreatDoor.gro, World.alloc]
    by_cases h : k < X.heap.size + os.size + 1
    · rw [Array.getElem?_append_left (by simp; omega), Array.getElem?_append_left (by simp; omega), Array.getElem?_push_lt (by simp; omega), Array.getElem?_push_lt (by simp; omega)]
    · rw [Array.getElem?_append_right (by simp; omega), Array.getElem?_append_right (by simp; omega)]
      simp
  exact h.same (fun k _ hk => key k (by omega)) (fun k hk _ => key k (by omega))
theorem gro_fold' (X : World) (os os1 : Array Obj) (d d1 : Nat) (b : Obj) : (gro (gro X os d) os1 d1).alloc b = gro X ((os ++ os1).push b) d1 := by rw [gro_gro, gro_alloc]
def internL : List DNode → Int → List DFrame → List DNode × Int
  | ns, a, [] => (ns, a)
  | ns, a, f :: fs => if childV ns a f < 0 then internL (ns ++ [⟨a, f⟩]) ns.length fs else internL ns (childV ns a f) fs
def internStack (t : DStacks) (l : List DFrame) : DStacks × Int := if stacksOk t && (!l.isEmpty && l.all frameOk) then (⟨(internL t.Nodes (-1) l).1⟩, (internL t.Nodes (-1) l).2) else (t, -1)
theorem internL_len (ns : List DNode) (a : Int) (l : List DFrame) : ns.length ≤ (internL ns a l).1.length ∧ (internL ns a l).1.length ≤ ns.length + l.length := by
  induction l generalizing ns a with
  | nil => simp [internL]
  | cons f fs ih =>
    simp only [internL]
    split
    · have := ih (ns ++ [⟨a, f⟩]) ns.length
      simp only [List.length_append, List.length_cons, List.length_nil] at this
      simp only [List.length_cons]
      omega
    · have := ih ns (childV ns a f)
      simp only [List.length_cons]
      omega
theorem internStack_len (t : DStacks) (l : List DFrame) : (internStack t l).1.Nodes.length ≤ t.Nodes.length + l.length := by
  unfold internStack
  split
  · exact (internL_len _ _ _).2
  · exact Nat.le_add_right _ _
def RetStacksInt (x : DStacks × Int) (w : World) (r : Ending) (w' : World) : Prop := ∃ A0 c0, r = .returned (.tuple #[.agg #[.slice A0 x.1.Nodes.length c0], .int .i64 x.2]) ∧ Fresh tStacks w w' [.slice A0 x.1.Nodes.length c0] x.1 ∧ Gro w w'
theorem ret_stacks_int {x : DStacks × Int} {t : DStacks} {q : Int} (hx : x = (t, q)) {w w' : World} {A : Option Addr} {c : Nat} (hF : Fresh tStacks w w' [.slice A t.Nodes.length c] t) (hG : Gro w w') : RetStacksInt x w (.returned (.tuple #[.agg #[.slice A t.Nodes.length c], .int .i64 q])) w' := by
  subst hx
  exact ⟨A, c, rfl, hF, hG⟩
theorem stacks_nodes {w W : World} {t : DStacks} {A : Option Addr} {c : Nat} (h : Fresh tStacks w W [.slice A t.Nodes.length c] t) : Fresh (tNode.sl 48) w W [.slice A t.Nodes.length c] t.Nodes := h
set_option maxRecDepth 100000 in
set_option maxHeartbeats 2000000 in
theorem internStack_i {t : DStacks} {l : List DFrame} {w : World} {A A2 : Option Addr} {c c2 : Nat} (hx : (tNode.sl 48).R w w.heap.size [.slice A t.Nodes.length c] t.Nodes) (hl : (tFrame.sl 46).R w w.heap.size [.slice A2 l.length c2] l) (hn : t.Nodes.length ≤ 1099511627776) (hnl : l.length ≤ 1099511627776) :
    Calls Tryz.prog 58 #[.agg #[.slice A t.Nodes.length c], .slice A2 l.length c2] w (RetStacksInt (internStack t l) w) := by
  obtain ⟨_, _, hv, h2, h3⟩ := sl_at hl
  injection hv with hA _ hc
  subst hA hc
  cases hok : stacksOk t
  · have HF := Lib.hid (show internStack t l = (t, -1) from by simp [internStack, hok])
    have HO := Lib.hid hok
    clear hok
    go_enter Tryz.func58, Tryz.ntmps58
    go_wp2_with (first | (go_at_call 32; (with_reducible refine (stacksOk_i (t := t) (Ty.up _ hx (by repeat (first | with_reducible exact Gro.refl _ | with_reducible exact Gro.refl_drew _ _ _ | with_reducible exact Gro.refl_drewN _ _ _ _ | assumption | with_reducible apply Gro.more | with_reducible apply Gro.alloc | with_reducible apply Gro.drew | with_reducible apply Gro.drewN)))).mono ?_); rw [HO.out]; rintro e w1 ⟨rfl, os1, d1, rfl⟩) | (go_at_call 82; (with_reducible refine (copyStacks_i (t := t) (Ty.up _ hx (by repeat (first | with_reducible exact Gro.refl _ | with_reducible exact Gro.refl_drew _ _ _ | with_reducible exact Gro.refl_drewN _ _ _ _ | assumption | with_reducible apply Gro.more | with_reducible apply Gro.alloc | with_reducible apply Gro.drew | with_reducible apply Gro.drewN))) hn).mono ?_); rintro e w1 ⟨B0, d0, rfl, hF, os2, d2, rfl⟩))
    refine bodyPost_ret (v := .tuple #[.agg #[.slice B0 t.Nodes.length d0], .int .i64 (-1)]) (by simp [results, Tryz.results58, go_sem]) rfl (ret_stacks_int HF.out ?_ (by repeat (first | with_reducible exact Gro.refl _ | with_reducible exact Gro.refl_drew _ _ _ | with_reducible exact Gro.refl_drewN _ _ _ _ | assumption | with_reducible apply Gro.more | with_reducible apply Gro.alloc | with_reducible apply Gro.drew | with_reducible apply Gro.drewN)))
    exact tStacks_fresh ((stacks_nodes hF).fre.same (by repeat (first | with_reducible exact Same.refl _ _ _ | ((with_reducible refine Same.base ?_ ?_) <;> (simp <;> omega)) | ((with_reducible refine Same.more ?_ ?_ _ _); rotate_left; simp <;> omega) | ((with_reducible refine Same.alloc ?_ ?_ _); rotate_left; simp <;> omega) | with_reducible apply Same.drew | with_reducible apply Same.drewN))) (by simp; omega)
  · by_cases hl0 : l.length = 0
    · have HF := Lib.hid (show internStack t l = (t, -1) from by rw [List.length_eq_zero_iff] at hl0; simp [internStack, hl0])
      have HO := Lib.hid hok
      have hlz : ((l.length : Int) == 0) = true := by simp [hl0]
      clear hok hl0
      go_enter Tryz.func58, Tryz.ntmps58
      go_wp2_with (first | (go_at_call 32; (with_reducible refine (stacksOk_i (t := t) (Ty.up _ hx (by repeat (first | with_reducible exact Gro.refl _ | with_reducible exact Gro.refl_drew _ _ _ | with_reducible exact Gro.refl_drewN _ _ _ _ | assumption | with_reducible apply Gro.more | with_reducible apply Gro.alloc | with_reducible apply Gro.drew | with_reducible apply Gro.drewN)))).mono ?_); rw [HO.out]; rintro e w1 ⟨rfl, os1, d1, rfl⟩) | (go_at_call 82; (with_reducible refine (copyStacks_i (t := t) (Ty.up _ hx (by repeat (first | with_reducible exact Gro.refl _ | with_reducible exact Gro.refl_drew _ _ _ | with_reducible exact Gro.refl_drewN _ _ _ _ | assumption | with_reducible apply Gro.more | with_reducible apply Gro.alloc | with_reducible apply Gro.drew | with_reducible apply Gro.drewN))) hn).mono ?_); rintro e w1 ⟨B0, d0, rfl, hF, os2, d2, rfl⟩))
      refine bodyPost_ret (v := .tuple #[.agg #[.slice B0 t.Nodes.length d0], .int .i64 (-1)]) (by simp [results, Tryz.results58, go_sem]) rfl (ret_stacks_int HF.out ?_ (by repeat (first | with_reducible exact Gro.refl _ | with_reducible exact Gro.refl_drew _ _ _ | with_reducible exact Gro.refl_drewN _ _ _ _ | assumption | with_reducible apply Gro.more | with_reducible apply Gro.alloc | with_reducible apply Gro.drew | with_reducible apply Gro.drewN)))
      exact tStacks_fresh ((stacks_nodes hF).fre.same (by repeat (first | with_reducible exact Same.refl _ _ _ | ((with_reducible refine Same.base ?_ ?_) <;> (simp <;> omega)) | ((with_reducible refine Same.more ?_ ?_ _ _); rotate_left; simp <;> omega) | ((with_reducible refine Same.alloc ?_ ?_ _); rotate_left; simp <;> omega) | with_reducible apply Same.drew | with_reducible apply Same.drewN))) (by simp; omega)
    · have hlz : ((l.length : Int) == 0) = false := by simp; intro h; simp [h] at hl0
      have HO := Lib.hid hok
      have HL0 := Lib.hid hl0
      clear hok hl0
      go_enter Tryz.func58, Tryz.ntmps58
      go_wp2_with (first | (go_at_call 32; (with_reducible refine (stacksOk_i (t := t) (Ty.up _ hx (by repeat (first | with_reducible exact Gro.refl _ | with_reducible exact Gro.refl_drew _ _ _ | with_reducible exact Gro.refl_drewN _ _ _ _ | assumption | with_reducible apply Gro.more | with_reducible apply Gro.alloc | with_reducible apply Gro.drew | with_reducible apply Gro.drewN)))).mono ?_); rw [HO.out]; rintro e w1 ⟨rfl, os1, d1, rfl⟩) | (go_at_call 82; (with_reducible refine (copyStacks_i (t := t) (Ty.up _ hx (by repeat (first | with_reducible exact Gro.refl _ | with_reducible exact Gro.refl_drew _ _ _ | with_reducible exact Gro.refl_drewN _ _ _ _ | assumption | with_reducible apply Gro.more | with_reducible apply Gro.alloc | with_reducible apply Gro.drew | with_reducible apply Gro.drewN))) hn).mono ?_); rintro e w1 ⟨B0, d0, rfl, hF, os2, d2, rfl⟩))
      generalize hm : os2.size = m
      have HF := Lib.hid hF
      clear hF
      go_loopw [26] (fun i wr => ∃ (j : Nat), j ≤ l.length ∧ i = .int .i64 j ∧ Hid (Gro ((gro ((w.alloc (.cells #[.slice A t.Nodes.length c] 26)).alloc (.cells #[.slice none 0 0] 26)) os2 d2).alloc (.cells #[.slice B0 t.Nodes.length d0] 26)) wr) ∧ Hid ((l.take j).all frameOk = true)) (fun i _ => l.length - (intOf i).toNat)
      case atStart => exact ⟨0, Nat.zero_le _, rfl, Lib.hid (by repeat (first | with_reducible exact Gro.refl _ | with_reducible exact Gro.refl_drew _ _ _ | with_reducible exact Gro.refl_drewN _ _ _ _ | assumption | with_reducible apply Gro.more | with_reducible apply Gro.alloc | with_reducible apply Gro.drew | with_reducible apply Gro.drewN)), Lib.hid (by simp)⟩
      case round =>
        obtain ⟨j, hj, rfl, hG, HT⟩ := hrel
        obtain ⟨os, d, rfl⟩ := hG.out
        clear hG
        by_cases hlt : j < l.length
        · obtain ⟨g, off, f, rfl, hgb, hfk, hf0, hf1, bf0, bf1⟩ := atFrame hl hlt
          have HX := Lib.hid hfk
          have HL := Lib.hid hl
          clear hfk hl
          cases hfo : frameOk f
          · have HQ := Lib.hid (show internStack t l = (t, -1) from by unfold internStack; rw [all_not HX.out hfo]; simp)
            have HFO := Lib.hid hfo
            clear hfo
            go_wp2_with (go_at_call 53; (with_reducible refine (frameOk_i (f := f) bf0).mono ?_); rw [HFO.out]; rintro e w1 ⟨rfl, os3, d3, rfl⟩)
            refine bodyPost_ret (v := .tuple #[.agg #[.slice B0 t.Nodes.length d0], .int .i64 (-1)]) (by simp [results, Tryz.results58, go_sem, hm]) rfl (ret_stacks_int HQ.out ?_ (by repeat (first | with_reducible exact Gro.refl _ | with_reducible exact Gro.refl_drew _ _ _ | with_reducible exact Gro.refl_drewN _ _ _ _ | assumption | with_reducible apply Gro.more | with_reducible apply Gro.alloc | with_reducible apply Gro.drew | with_reducible apply Gro.drewN)))
            exact tStacks_fresh ((stacks_nodes HF.out).fre.same (by repeat (first | with_reducible exact Same.refl _ _ _ | ((with_reducible refine Same.base ?_ ?_) <;> (simp <;> omega)) | ((with_reducible refine Same.more ?_ ?_ _ _); rotate_left; simp <;> omega) | ((with_reducible refine Same.alloc ?_ ?_ _); rotate_left; simp <;> omega) | with_reducible apply Same.drew | with_reducible apply Same.drewN))) (by simp; omega)
          · have HFO := Lib.hid hfo
            clear hfo
            go_wp2_with (go_at_call 53; (with_reducible refine (frameOk_i (f := f) bf0).mono ?_); rw [HFO.out]; rintro e w1 ⟨rfl, os3, d3, rfl⟩)
            go_roundw
            case rel => exact ⟨j + 1, by omega, by go_num, Lib.hid (by repeat (first | with_reducible exact Gro.refl _ | with_reducible exact Gro.refl_drew _ _ _ | with_reducible exact Gro.refl_drewN _ _ _ _ | assumption | with_reducible apply Gro.more | with_reducible apply Gro.alloc | with_reducible apply Gro.drew | with_reducible apply Gro.drewN)), Lib.hid (all_snoc HX.out HT.out HFO.out)⟩
            case measure => simp [intOf]; omega
        · have hje : j = l.length := by omega
          subst hje
          have HFin := Lib.hid (show internStack t l = (⟨(internL t.Nodes (-1) l).1⟩, (internL t.Nodes (-1) l).2) from by
            have h1 := HT.out
            rw [List.take_length] at h1
            unfold internStack
            rw [HO.out, h1]
            cases l with
            | nil => exact absurd rfl HL0.out
            | cons f fs => simp)
          clear HT
          go_wp2_with (fail)
          go_loopw [9, 37] (fun a i wr => ∃ (j : Nat) (q : Int) (ns : List DNode) (B : Option Addr) (cc : Nat) (os' os3 : Array Obj) (d3 d4 : Nat), j ≤ l.length ∧ i = .int .i64 j ∧ a = .int .i64 q ∧ -1 ≤ q ∧ q < ns.length ∧ ns.length ≤ t.Nodes.length + j ∧ Hid (os'.size = m) ∧ Hid (wr = gro ((gro ((w.alloc (.cells #[.slice A t.Nodes.length c] 26)).alloc (.cells #[.slice none 0 0] 26)) os' d3).alloc (.cells #[.slice B ns.length cc] 26)) os3 d4) ∧
            Hid (Fr2 (tNode.sl 48) ((w.alloc (.cells #[.slice A t.Nodes.length c] 26)).alloc (.cells #[.slice none 0 0] 26)) (w.heap.size + 1 + 1 + m) (w.heap.size + 1 + 1 + m + 1) wr [.slice B ns.length cc] ns) ∧ Hid (internL ns q (l.drop j) = internL t.Nodes (-1) l)) (fun _ i _ => l.length - (intOf i).toNat)
          case atStart => exact ⟨0, -1, t.Nodes, B0, d0, os2, os, d2, d, Nat.zero_le _, rfl, rfl, by omega, by omega, by omega, Lib.hid hm, rfl, Lib.hid (by
            have h := (stacks_nodes HF.out).fre
            rw [gro_size, World.size_alloc, World.size_alloc, hm] at h
            exact ((h.since (by simp)).fr2.up (by repeat (first | with_reducible exact Gro.refl _ | with_reducible exact Gro.refl_drew _ _ _ | with_reducible exact Gro.refl_drewN _ _ _ _ | assumption | with_reducible apply Gro.more | with_reducible apply Gro.alloc | with_reducible apply Gro.drew | with_reducible apply Gro.drewN)))), Lib.hid (by simp)⟩
          case round =>
            obtain ⟨j, q, ns, B, cc, os', os3, d3, d4, hj, rfl, rfl, q1, q2, q3, hm2, hw, hF2, HT⟩ := hrel
            have hw' := hw.out
            subst hw'
            clear hw
            have hm' := hm2.out
            by_cases hlt : j < l.length
            · obtain ⟨g, off, f, rfl, hgb, hfk, hf0, hf1, bf0, bf1⟩ := atFrame hl hlt
              have HX := Lib.hid hfk
              have HL := Lib.hid hl
              clear hfk hl
              have hcl := child_lt (ns := ns) (p := q) (f := f)
              have HT2 := Lib.hid (show internL ns q (l.drop j) = if childV ns q f < 0 then internL (ns ++ [⟨q, f⟩]) ns.length (l.drop (j + 1)) else internL ns (childV ns q f) (l.drop (j + 1)) from by rw [drop_at HX.out]; rfl)
              generalize hv : childV ns q f = v at hcl HT2
              have HV := Lib.hid hv
              clear hv
              by_cases hneg : v < 0
              · go_wp2_with (first
                  | (go_at_call 83; (with_reducible refine (child_i (ns := ns) (p := q) (f := f) (Ty.up _ hF2.out.read (by repeat (first | with_reducible exact Gro.refl _ | with_reducible exact Gro.refl_drew _ _ _ | with_reducible exact Gro.refl_drewN _ _ _ _ | assumption | with_reducible apply Gro.more | with_reducible apply Gro.alloc | with_reducible apply Gro.drew | with_reducible apply Gro.drewN)))).mono ?_); rw [HV.out]; rintro e w1 ⟨rfl, os5, d5, rfl⟩)
                  | (at_builtin; go_must (refine wpList_append_fone2 (W0 := (w.alloc (.cells #[.slice A t.Nodes.length c] 26)).alloc (.cells #[.slice none 0 0] 26)) (X := (w.alloc (.cells #[.slice A t.Nodes.length c] 26)).alloc (.cells #[.slice none 0 0] 26)) (os := os') (d := d3) (L := ns.length + 1) rfl (.tmp 51) (.tmp 55) elNode flatNode (hF2.out.up (by repeat (first | with_reducible exact Gro.refl _ | with_reducible exact Gro.refl_drew _ _ _ | with_reducible exact Gro.refl_drewN _ _ _ _ | assumption | with_reducible apply Gro.more | with_reducible apply Gro.alloc | with_reducible apply Gro.drew | with_reducible apply Gro.drewN))) (by repeat (first | with_reducible exact Gro.refl _ | with_reducible exact Gro.refl_drew _ _ _ | with_reducible exact Gro.refl_drewN _ _ _ _ | assumption | with_reducible apply Gro.more | with_reducible apply Gro.alloc | with_reducible apply Gro.drew | with_reducible apply Gro.drewN)) (by simp [hm']) (by simp [hm']) (by simp) (by simp) (W1 := w) (B := 0) (y := ⟨q, f⟩) (ec := [.int .i64 q, .string f.Name, .int .i64 f.Line]) (tNode_mkR (x := ⟨q, f⟩) ⟨by show _ ≤ q; omega, by show q ≤ _; omega⟩ bf0 bf1) rfl rfl rfl (by intro i x hx; simpa [go_sem, hm'] using hx) rfl (by omega) (by omega) ?_); intro B2 c3 os6 os7 d7 hs6 hF3))
                go_roundw
                case rel => exact ⟨j + 1, ns.length, ns ++ [⟨q, f⟩], B2, c3, os6, os7, d3, d7, by omega, by go_num, rfl, by omega, by simp only [List.length_append, List.length_cons, List.length_nil]; omega, by simp only [List.length_append, List.length_cons, List.length_nil]; omega, Lib.hid (by omega), Lib.hid (by simp), Lib.hid (by simp only [List.length_append, List.length_cons, List.length_nil]; exact hF3.rebox (by simp; omega) (by simp; omega)), Lib.hid (by rw [← HT.out, HT2.out, if_pos hneg])⟩
                case measure => simp [intOf]; omega
              · go_wp2_with (go_at_call 83; (with_reducible refine (child_i (ns := ns) (p := q) (f := f) (Ty.up _ hF2.out.read (by repeat (first | with_reducible exact Gro.refl _ | with_reducible exact Gro.refl_drew _ _ _ | with_reducible exact Gro.refl_drewN _ _ _ _ | assumption | with_reducible apply Gro.more | with_reducible apply Gro.alloc | with_reducible apply Gro.drew | with_reducible apply Gro.drewN)))).mono ?_); rw [HV.out]; rintro e w1 ⟨rfl, os5, d5, rfl⟩)
                go_roundw
                case rel => exact ⟨j + 1, v, ns, B, cc, os', _, d3, _, by omega, by go_num, rfl, by omega, by omega, by omega, hm2, Lib.hid (by rw [gro_alloc, gro_gro]), Lib.hid (hF2.out.up (by repeat (first | with_reducible exact Gro.refl _ | with_reducible exact Gro.refl_drew _ _ _ | with_reducible exact Gro.refl_drewN _ _ _ _ | assumption | with_reducible apply Gro.more | with_reducible apply Gro.alloc | with_reducible apply Gro.drew | with_reducible apply Gro.drewN))), Lib.hid (by rw [← HT.out, HT2.out, if_neg (by omega)])⟩
                case measure => simp [intOf]; omega
            · have hje : j = l.length := by omega
              subst hje
              go_wp2_with (fail)
              refine bodyPost_ret (v := .tuple #[.agg #[.slice B ns.length cc], .int .i64 q]) (by simp [results, Tryz.results58, go_sem]) rfl (ret_stacks_int (by rw [HFin.out, ← HT.out, List.drop_length]; rfl) ?_ (by repeat (first | with_reducible exact Gro.refl _ | with_reducible exact Gro.refl_drew _ _ _ | with_reducible exact Gro.refl_drewN _ _ _ _ | assumption | with_reducible apply Gro.more | with_reducible apply Gro.alloc | with_reducible apply Gro.drew | with_reducible apply Gro.drewN)))
              exact ((hF2.out.base_box (by simp) (by simp; omega)).fresh (by simp; omega)).since (by simp; omega)
set_option maxRecDepth 100000 in
set_option maxHeartbeats 2000000 in
theorem internStack_s {t : DStacks} {l : List DFrame} {w : World} {A A2 : Option Addr} {c c2 : Nat} (hx : (tNode.sl 48).R w w.heap.size [.slice A t.Nodes.length c] t.Nodes) (hl : (tFrame.sl 46).R w w.heap.size [.slice A2 l.length c2] l) (hn : t.Nodes.length ≤ 1099511627776) (hnl : l.length ≤ 1099511627776) :
    Calls Tryz.prog 52 #[.agg #[.slice A t.Nodes.length c], .slice A2 l.length c2] w (RetStacksInt (internStack t l) w) := by
  obtain ⟨_, _, hv, h2, h3⟩ := sl_at hl
  injection hv with hA _ hc
  subst hA hc
  cases hok : stacksOk t
  · have HF := Lib.hid (show internStack t l = (t, -1) from by simp [internStack, hok])
    have HO := Lib.hid hok
    clear hok
    go_enter Tryz.func52, Tryz.ntmps52
    go_wp2_with (first | (go_at_call 46; (with_reducible refine (stacksOk_s (t := t) (Ty.up _ hx (by repeat (first | with_reducible exact Gro.refl _ | with_reducible exact Gro.refl_drew _ _ _ | with_reducible exact Gro.refl_drewN _ _ _ _ | assumption | with_reducible apply Gro.more | with_reducible apply Gro.alloc | with_reducible apply Gro.drew | with_reducible apply Gro.drewN)))).mono ?_); rw [HO.out]; rintro e w1 ⟨rfl, os1, d1, rfl⟩) | (go_at_call 77; (with_reducible refine (copyStacks_s (t := t) (Ty.up _ hx (by repeat (first | with_reducible exact Gro.refl _ | with_reducible exact Gro.refl_drew _ _ _ | with_reducible exact Gro.refl_drewN _ _ _ _ | assumption | with_reducible apply Gro.more | with_reducible apply Gro.alloc | with_reducible apply Gro.drew | with_reducible apply Gro.drewN))) hn).mono ?_); rintro e w1 ⟨B0, d0, rfl, hF, os2, d2, rfl⟩))
    refine bodyPost_ret (v := .tuple #[.agg #[.slice B0 t.Nodes.length d0], .int .i64 (-1)]) (by simp [results, Tryz.results52, go_sem]) rfl (ret_stacks_int HF.out ?_ (by repeat (first | with_reducible exact Gro.refl _ | with_reducible exact Gro.refl_drew _ _ _ | with_reducible exact Gro.refl_drewN _ _ _ _ | assumption | with_reducible apply Gro.more | with_reducible apply Gro.alloc | with_reducible apply Gro.drew | with_reducible apply Gro.drewN)))
    exact tStacks_fresh ((stacks_nodes hF).fre.same (by repeat (first | with_reducible exact Same.refl _ _ _ | ((with_reducible refine Same.base ?_ ?_) <;> (simp <;> omega)) | ((with_reducible refine Same.more ?_ ?_ _ _); rotate_left; simp <;> omega) | ((with_reducible refine Same.alloc ?_ ?_ _); rotate_left; simp <;> omega) | with_reducible apply Same.drew | with_reducible apply Same.drewN))) (by simp; omega)
  · by_cases hl0 : l.length = 0
    · have HF := Lib.hid (show internStack t l = (t, -1) from by rw [List.length_eq_zero_iff] at hl0; simp [internStack, hl0])
      have HO := Lib.hid hok
      have hlz : ((l.length : Int) == 0) = true := by simp [hl0]
      clear hok hl0
      go_enter Tryz.func52, Tryz.ntmps52
      go_wp2_with (first | (go_at_call 46; (with_reducible refine (stacksOk_s (t := t) (Ty.up _ hx (by repeat (first | with_reducible exact Gro.refl _ | with_reducible exact Gro.refl_drew _ _ _ | with_reducible exact Gro.refl_drewN _ _ _ _ | assumption | with_reducible apply Gro.more | with_reducible apply Gro.alloc | with_reducible apply Gro.drew | with_reducible apply Gro.drewN)))).mono ?_); rw [HO.out]; rintro e w1 ⟨rfl, os1, d1, rfl⟩) | (go_at_call 77; (with_reducible refine (copyStacks_s (t := t) (Ty.up _ hx (by repeat (first | with_reducible exact Gro.refl _ | with_reducible exact Gro.refl_drew _ _ _ | with_reducible exact Gro.refl_drewN _ _ _ _ | assumption | with_reducible apply Gro.more | with_reducible apply Gro.alloc | with_reducible apply Gro.drew | with_reducible apply Gro.drewN))) hn).mono ?_); rintro e w1 ⟨B0, d0, rfl, hF, os2, d2, rfl⟩))
      refine bodyPost_ret (v := .tuple #[.agg #[.slice B0 t.Nodes.length d0], .int .i64 (-1)]) (by simp [results, Tryz.results52, go_sem]) rfl (ret_stacks_int HF.out ?_ (by repeat (first | with_reducible exact Gro.refl _ | with_reducible exact Gro.refl_drew _ _ _ | with_reducible exact Gro.refl_drewN _ _ _ _ | assumption | with_reducible apply Gro.more | with_reducible apply Gro.alloc | with_reducible apply Gro.drew | with_reducible apply Gro.drewN)))
      exact tStacks_fresh ((stacks_nodes hF).fre.same (by repeat (first | with_reducible exact Same.refl _ _ _ | ((with_reducible refine Same.base ?_ ?_) <;> (simp <;> omega)) | ((with_reducible refine Same.more ?_ ?_ _ _); rotate_left; simp <;> omega) | ((with_reducible refine Same.alloc ?_ ?_ _); rotate_left; simp <;> omega) | with_reducible apply Same.drew | with_reducible apply Same.drewN))) (by simp; omega)
    · have hlz : ((l.length : Int) == 0) = false := by simp; intro h; simp [h] at hl0
      have HO := Lib.hid hok
      have HL0 := Lib.hid hl0
      clear hok hl0
      go_enter Tryz.func52, Tryz.ntmps52
      go_wp2_with (first | (go_at_call 46; (with_reducible refine (stacksOk_s (t := t) (Ty.up _ hx (by repeat (first | with_reducible exact Gro.refl _ | with_reducible exact Gro.refl_drew _ _ _ | with_reducible exact Gro.refl_drewN _ _ _ _ | assumption | with_reducible apply Gro.more | with_reducible apply Gro.alloc | with_reducible apply Gro.drew | with_reducible apply Gro.drewN)))).mono ?_); rw [HO.out]; rintro e w1 ⟨rfl, os1, d1, rfl⟩) | (go_at_call 77; (with_reducible refine (copyStacks_s (t := t) (Ty.up _ hx (by repeat (first | with_reducible exact Gro.refl _ | with_reducible exact Gro.refl_drew _ _ _ | with_reducible exact Gro.refl_drewN _ _ _ _ | assumption | with_reducible apply Gro.more | with_reducible apply Gro.alloc | with_reducible apply Gro.drew | with_reducible apply Gro.drewN))) hn).mono ?_); rintro e w1 ⟨B0, d0, rfl, hF, os2, d2, rfl⟩))
      generalize hm : os2.size = m
      have HF := Lib.hid hF
      clear hF
      go_loopw [7, 8] (fun a i wr => ∃ (j : Nat) (q : Int) (ns : List DNode) (B : Option Addr) (cc : Nat) (os' os3 : Array Obj) (d3 d4 : Nat), j ≤ l.length ∧ i = .int .i64 j ∧ a = .int .i64 q ∧ -1 ≤ q ∧ q < ns.length ∧ ns.length ≤ t.Nodes.length + j ∧ Hid (os'.size = m) ∧ Hid (wr = gro ((gro ((w.alloc (.cells #[.slice A t.Nodes.length c] 26)).alloc (.cells #[.slice none 0 0] 26)) os' d3).alloc (.cells #[.slice B ns.length cc] 26)) os3 d4) ∧
        Hid (Fr2 (tNode.sl 48) ((w.alloc (.cells #[.slice A t.Nodes.length c] 26)).alloc (.cells #[.slice none 0 0] 26)) (w.heap.size + 1 + 1 + m) (w.heap.size + 1 + 1 + m + 1) wr [.slice B ns.length cc] ns) ∧ Hid (internL ns q (l.drop j) = internL t.Nodes (-1) l) ∧ Hid ((l.take j).all frameOk = true)) (fun _ i _ => l.length - (intOf i).toNat)
      case atStart => exact ⟨0, -1, t.Nodes, B0, d0, os2, os1, d2, d1, Nat.zero_le _, rfl, rfl, by omega, by omega, by omega, Lib.hid hm, rfl, Lib.hid (by
        have h := (stacks_nodes HF.out).fre
        rw [gro_size, World.size_alloc, World.size_alloc, hm] at h
        exact ((h.since (by simp)).fr2.up (by repeat (first | with_reducible exact Gro.refl _ | with_reducible exact Gro.refl_drew _ _ _ | with_reducible exact Gro.refl_drewN _ _ _ _ | assumption | with_reducible apply Gro.more | with_reducible apply Gro.alloc | with_reducible apply Gro.drew | with_reducible apply Gro.drewN)))), Lib.hid (by simp), Lib.hid (by simp)⟩
      case round =>
        obtain ⟨j, q, ns, B, cc, os', os3, d3, d4, hj, rfl, rfl, q1, q2, q3, hm2, hw, hF2, HT, HA⟩ := hrel
        have hw' := hw.out
        subst hw'
        clear hw
        have hm' := hm2.out
        by_cases hlt : j < l.length
        · obtain ⟨g, off, f, rfl, hgb, hfk, hf0, hf1, bf0, bf1⟩ := atFrame hl hlt
          have HX := Lib.hid hfk
          have HL := Lib.hid hl
          clear hfk hl
          have hcl := child_lt (ns := ns) (p := q) (f := f)
          have HT2 := Lib.hid (show internL ns q (l.drop j) = if childV ns q f < 0 then internL (ns ++ [⟨q, f⟩]) ns.length (l.drop (j + 1)) else internL ns (childV ns q f) (l.drop (j + 1)) from by rw [drop_at HX.out]; rfl)
          generalize hv : childV ns q f = v at hcl HT2
          have HV := Lib.hid hv
          clear hv
          cases hfo : frameOk f
          · have HQ := Lib.hid (show internStack t l = (t, -1) from by unfold internStack; rw [all_not HX.out hfo]; simp)
            have HFO := Lib.hid hfo
            clear hfo
            go_wp2_with (first
              | (go_at_call 74; (with_reducible refine (frameOk_s (f := f) bf0).mono ?_); rw [HFO.out]; rintro e w1 ⟨rfl, os8, d8, rfl⟩)
              | (go_at_call 77; (with_reducible refine (copyStacks_s (t := t) (Ty.up _ hx (by repeat (first | with_reducible exact Gro.refl _ | with_reducible exact Gro.refl_drew _ _ _ | with_reducible exact Gro.refl_drewN _ _ _ _ | assumption | with_reducible apply Gro.more | with_reducible apply Gro.alloc | with_reducible apply Gro.drew | with_reducible apply Gro.drewN))) hn).mono ?_); rintro e w1 ⟨B9, d9, rfl, hF9, os9, dd9, rfl⟩))
            refine bodyPost_ret (v := .tuple #[.agg #[.slice B9 t.Nodes.length d9], .int .i64 (-1)]) (by simp [results, Tryz.results52, go_sem, hm']) rfl (ret_stacks_int HQ.out ?_ (by repeat (first | with_reducible exact Gro.refl _ | with_reducible exact Gro.refl_drew _ _ _ | with_reducible exact Gro.refl_drewN _ _ _ _ | assumption | with_reducible apply Gro.more | with_reducible apply Gro.alloc | with_reducible apply Gro.drew | with_reducible apply Gro.drewN)))
            refine tStacks_fresh ((stacks_nodes hF9).fre.same ?_) (by simp; omega)
            simp only [gro_gro]
            exact Same.base_box (by simp) (by simp; omega)
          · have HFO := Lib.hid hfo
            clear hfo
            by_cases hneg : v < 0
            · go_wp2_with (first
                | (go_at_call 74; (with_reducible refine (frameOk_s (f := f) bf0).mono ?_); rw [HFO.out]; rintro e w1 ⟨rfl, os8, d8, rfl⟩))
              go_region_held3 (fun w' => w'.cell? ⟨g, off + j * 2, none⟩ = some (.string f.Name) ∧ w'.cell? ⟨g, off + j * 2 + 1, none⟩ = some (.int .i64 f.Line) ∧ w'.cell? ⟨w.heap.size + 1 + 1 + m, 0, none⟩ = some (.slice B ns.length cc)) ((repeat' apply And.intro) <;> (first | ((repeat (first | assumption | with_reducible refine gro_keeps ?_ _ _ | with_reducible refine alloc_keeps ?_ _ | with_reducible refine drew_keeps ?_)); done) | (simp [go_sem, hm']; done))) (first | (go_at_call 78; refine (child_s (ns := ns) (p := q) (f := f) (Ty.up _ hF2.out.read (by repeat (first | with_reducible exact Gro.refl _ | with_reducible exact Gro.refl_drew _ _ _ | with_reducible exact Gro.refl_drewN _ _ _ _ | assumption | with_reducible apply Gro.more | with_reducible apply Gro.alloc | with_reducible apply Gro.drew | with_reducible apply Gro.drewN)))).mono ?_; rw [HV.out]; rintro e w1 ⟨rfl, os5, d5, rfl⟩))
              go_wp2_with (fail)
              go_region_law (refine step_append_fone2 (W0 := (w.alloc (.cells #[.slice A t.Nodes.length c] 26)).alloc (.cells #[.slice none 0 0] 26)) (X := (w.alloc (.cells #[.slice A t.Nodes.length c] 26)).alloc (.cells #[.slice none 0 0] 26)) (os := os') (d := d3) (L := ns.length + 1) rfl (.tmp 48) (.tmp 55) elNode flatNode (hF2.out.up (by repeat (first | with_reducible exact Gro.refl _ | with_reducible exact Gro.refl_drew _ _ _ | with_reducible exact Gro.refl_drewN _ _ _ _ | assumption | with_reducible apply Gro.more | with_reducible apply Gro.alloc | with_reducible apply Gro.drew | with_reducible apply Gro.drewN))) (by repeat (first | with_reducible exact Gro.refl _ | with_reducible exact Gro.refl_drew _ _ _ | with_reducible exact Gro.refl_drewN _ _ _ _ | assumption | with_reducible apply Gro.more | with_reducible apply Gro.alloc | with_reducible apply Gro.drew | with_reducible apply Gro.drewN)) (by simp [hm']) (by simp [hm']) (by simp) (by simp) (W1 := w) (B := 0) (y := ⟨q, f⟩) (ec := [.int .i64 q, .string f.Name, .int .i64 f.Line]) (tNode_mkR (x := ⟨q, f⟩) ⟨by show _ ≤ q; omega, by show q ≤ _; omega⟩ bf0 bf1) rfl rfl rfl (by intro i x hx; simpa [go_sem, hm'] using hx) rfl (by omega) (by omega) ?_; intro B2 c3 os6 os7 d7 hs6 hF3)
              all_goals
                go_wp2_with (fail)
                go_roundw
                case rel => exact ⟨j + 1, ns.length, ns ++ [⟨q, f⟩], B2, c3, os6, os7, d3, d7, by omega, by go_num, rfl, by omega, by simp only [List.length_append, List.length_cons, List.length_nil]; omega, by simp only [List.length_append, List.length_cons, List.length_nil]; omega, Lib.hid (by omega), Lib.hid (by simp), Lib.hid (by simp only [List.length_append, List.length_cons, List.length_nil]; exact hF3.rebox (by simp; omega) (by simp; omega)), Lib.hid (by rw [← HT.out, HT2.out, if_pos hneg]), Lib.hid (all_snoc HX.out HA.out HFO.out)⟩
                case measure => simp [intOf]; omega
            · go_wp2_with (first
                | (go_at_call 74; (with_reducible refine (frameOk_s (f := f) bf0).mono ?_); rw [HFO.out]; rintro e w1 ⟨rfl, os8, d8, rfl⟩))
              go_region_held3 (fun w' => w'.cell? ⟨g, off + j * 2, none⟩ = some (.string f.Name) ∧ w'.cell? ⟨g, off + j * 2 + 1, none⟩ = some (.int .i64 f.Line) ∧ w'.cell? ⟨w.heap.size + 1 + 1 + m, 0, none⟩ = some (.slice B ns.length cc)) ((repeat' apply And.intro) <;> (first | ((repeat (first | assumption | with_reducible refine gro_keeps ?_ _ _ | with_reducible refine alloc_keeps ?_ _ | with_reducible refine drew_keeps ?_)); done) | (simp [go_sem, hm']; done))) (first | (go_at_call 78; refine (child_s (ns := ns) (p := q) (f := f) (Ty.up _ hF2.out.read (by repeat (first | with_reducible exact Gro.refl _ | with_reducible exact Gro.refl_drew _ _ _ | with_reducible exact Gro.refl_drewN _ _ _ _ | assumption | with_reducible apply Gro.more | with_reducible apply Gro.alloc | with_reducible apply Gro.drew | with_reducible apply Gro.drewN)))).mono ?_; rw [HV.out]; rintro e w1 ⟨rfl, os5, d5, rfl⟩))
              go_wp2_with (fail)
              go_roundw
              case rel => exact ⟨j + 1, v, ns, B, cc, os', _, d3, _, by omega, by go_num, rfl, by omega, by omega, by omega, hm2, Lib.hid (by rw [gro_gro, gro_gro]), Lib.hid (hF2.out.up (by repeat (first | with_reducible exact Gro.refl _ | with_reducible exact Gro.refl_drew _ _ _ | with_reducible exact Gro.refl_drewN _ _ _ _ | assumption | with_reducible apply Gro.more | with_reducible apply Gro.alloc | with_reducible apply Gro.drew | with_reducible apply Gro.drewN))), Lib.hid (by rw [← HT.out, HT2.out, if_neg (by omega)]), Lib.hid (all_snoc HX.out HA.out HFO.out)⟩
              case measure => simp [intOf]; omega
        · have hje : j = l.length := by omega
          subst hje
          have HFin := Lib.hid (show internStack t l = (⟨(internL t.Nodes (-1) l).1⟩, (internL t.Nodes (-1) l).2) from by
            have h1 := HA.out
            rw [List.take_length] at h1
            unfold internStack
            rw [HO.out, h1]
            cases l with
            | nil => exact absurd rfl HL0.out
            | cons f fs => simp)
          go_wp2_with (fail)
          refine bodyPost_ret (v := .tuple #[.agg #[.slice B ns.length cc], .int .i64 q]) (by simp [results, Tryz.results52, go_sem]) rfl (ret_stacks_int (by rw [HFin.out, ← HT.out, List.drop_length]; rfl) ?_ (by repeat (first | with_reducible exact Gro.refl _ | with_reducible exact Gro.refl_drew _ _ _ | with_reducible exact Gro.refl_drewN _ _ _ _ | assumption | with_reducible apply Gro.more | with_reducible apply Gro.alloc | with_reducible apply Gro.drew | with_reducible apply Gro.drewN)))
          exact ((hF2.out.base_box (by simp) (by simp; omega)).fresh (by simp; omega)).since (by simp; omega)
end Go.Proofs.YtcomafmiclkmhaaGreatDoor
