/-
  REGT: a region whose last operation stores into a cell that the region loads: what the loads read must hold till that store comes up, and it comes up when all else has. Over any program.
-/
import Derived.OrdersHeld
import Derived.RegionTactic
import Derived.Test.YtbhobjepjaeffaaBase
set_option linter.unusedVariables false
set_option linter.unusedSimpArgs false
namespace Go.Proofs.Ytbhobjepjaeffaa
open Go.RowKit
section
variable {P : Program} {ops : Array Oper} {Q : Exit → Act → World → Prop} {md : Region.Mode} {S : World → Prop} {m : Nat}
/-- whatever order: S holds behind every operation but m -/
def AnyT (P : Program) (md : Region.Mode) (ops : Array Oper) (Q : Exit → Act → World → Prop) (S : World → Prop) (m : Nat) : Nat → Array Bool → Act → World → Prop
  | 0, listed, a, w => Region.ready md ops listed = [] ∧ Q .normal a w
  | f + 1, listed, a, w => (Region.ready md ops listed = [] → Q .normal a w) ∧
      ∀ i ∈ Region.ready md ops listed, wpOp P ops Q i (fun a' w' => (i ≠ m → S w') ∧ AnyT P md ops Q S m f (listed.setIfInBounds i true) a' w') a w
theorem AnyT.any : ∀ {f : Nat} {listed : Array Bool} {a : Act} {w : World}, AnyT P md ops Q S m f listed a w → wpAny P md ops Q f listed a w
  | 0, _, _, _, h => h
  | _ + 1, _, _, _, h => ⟨h.1, fun i hi => wpOp_mono (fun _ _ h' => h'.2.any) (h.2 i hi)⟩
/-- each number of the list waits for the one ahead of it, the first for i; the last is m -/
def linksB (md : Region.Mode) (ops : Array Oper) (m : Nat) : Nat → List Nat → Bool
  | i, [] => i == m
  | i, c :: cs => (match ops[c]? with
      | some o => o.after.any fun e => Region.binds md e && e.on == i
      | none => false) && linksB md ops m c cs
theorem links_not {listed : Array Bool} : ∀ (cs : List Nat) (i : Nat), linksB md ops m i cs = true → listed.getD i true = false → (∀ c ∈ cs, listed.getD c true = false) → (∀ c ∈ cs, c ∉ Region.ready md ops listed) ∧ (cs ≠ [] → m ∈ cs) := by
  intro cs
  induction cs with
  | nil => intro i _ _ _; simp
  | cons c cs ih =>
    intro i hl hi hc
    simp only [linksB, Bool.and_eq_true] at hl
    obtain ⟨hl1, hl2⟩ := hl
    have hcc := hc c (by simp)
    obtain ⟨h1, h2⟩ := ih c hl2 hcc (fun d hd => hc d (by simp [hd]))
    have hcn : c ∉ Region.ready md ops listed := by
      intro hr
      obtain ⟨_, o, ho, hall⟩ := mem_ready.1 hr
      rw [ho] at hl1
      obtain ⟨e, he, hb⟩ := Array.any_eq_true'.1 hl1
      simp only [Bool.and_eq_true, beq_iff_eq] at hb
      have h3 := hall e he hb.1
      rw [hb.2] at h3
      rcases Nat.lt_or_ge i listed.size with h' | h'
      · simp [h'] at hi h3
        rw [hi] at h3
        cases h3
      · simp [Array.getElem?_eq_none h'] at hi
    refine ⟨fun d hd => ?_, fun _ => ?_⟩
    · rcases List.mem_cons.1 hd with rfl | hd
      · exact hcn
      · exact h1 d hd
    · cases cs with
      | nil =>
        simp only [linksB, beq_iff_eq] at hl2
        subst hl2
        simp
      | cons d ds => exact List.mem_cons_of_mem _ (h2 (by simp))
/-- number i may be taken first -/
theorem AnyT.first {i : Nat} {oi : Oper} {v : Value} {cs : List Nat} (hi : ops[i]? = some oi) (hsel : Region.noSelect ops = true) (hlk : linksB md ops m i cs = true) (hne : cs ≠ [])
    (hQ : ∀ c a w, Q (.panic c) (a.put oi.dst v) w → Q (.panic c) a w) :
    ∀ (f : Nat) (listed : Array Bool) (a : Act) (w : World), (∀ j oj, ops[j]? = some oj → j ≠ i → listed.getD j true = false → (∀ e ∈ oj.after, Region.binds md e = true → e.on ≠ i) → oi.apart ops oj = true) →
      (∀ c ∈ cs, listed.getD c true = false) → i ∈ Region.ready md ops listed → YieldsIf P ops S oi v a → S w →
      AnyT P md ops Q S m f (listed.setIfInBounds i true) (a.put oi.dst v) w → AnyT P md ops Q S m (f + 1) listed a w := by
  intro f
  induction f with
  | zero =>
    intro listed a w _ _ hr hy hS H
    refine ⟨fun h => absurd hr (by rw [h]; simp), fun j hj => ?_⟩
    by_cases hji : j = i
    · subst hji
      exact hy.wpOp hi hS ⟨fun _ => hS, H⟩
    · exact absurd (ready_mono hj hji) (by rw [H.1]; simp)
  | succ f ih =>
    intro listed a w hfree hcs hr hy hS H
    have hiu := (mem_ready.1 hr).1
    obtain ⟨hcr, hcm⟩ := links_not cs i hlk hiu hcs
    refine ⟨fun h => absurd hr (by rw [h]; simp), fun j hj => ?_⟩
    by_cases hji : j = i
    · subst hji
      exact hy.wpOp hi hS ⟨fun _ => hS, H⟩
    · have hjm : j ≠ m := fun h => hcr j (h ▸ hcm hne) hj
      have hjc : j ∉ cs := fun h => hcr j h hj
      obtain ⟨hju, oj, hoj, hall⟩ := mem_ready.1 hj
      have hno : ∀ e ∈ oj.after, Region.binds md e = true → e.on ≠ i := by
        intro e he hb heq
        have h1 := hall e he hb
        rw [heq] at h1
        rcases Nat.lt_or_ge i listed.size with h' | h'
        · simp [h'] at hiu h1
          rw [hiu] at h1
          cases h1
        · simp [Array.getElem?_eq_none h'] at hiu
      have h2 := wpOp_putIf hoj (hfree j oj hoj hji hju hno) (fun c b => Region.noSelect_spec hsel i oi c b hi) (fun c b => Region.noSelect_spec hsel j oj c b hoj) hQ hy (H.2 j (ready_mono hj hji))
      refine wpOp_mono (fun a' w' h3 => ?_) h2
      obtain ⟨h4, h5, h6⟩ := h3
      refine ⟨h5, ih (listed.setIfInBounds j true) a' w' (fun k ok hk hki hun hnk => ?_) (fun c hc => ?_) (ready_mono hr (Ne.symm hji)) h4 (h5 hjm) (by rw [Array.setIfInBounds_comm _ _ hji]; exact h6)⟩
      · by_cases hjk : j = k
        · subst hjk
          exact hfree j ok hk hki hju hnk
        · rw [getD_set_ne true hjk] at hun
          exact hfree k ok hk hki hun hnk
      · rw [getD_set_ne true (show j ≠ c from fun h => hjc (by rw [h]; exact hc))]
        exact hcs c hc
def unlB (listed : Array Bool) (cs : List Nat) : Bool := cs.all fun c => !listed.getD c true
theorem AnyT.take {i : Nat} {oi : Oper} {v : Value} {cs : List Nat} {f : Nat} {listed : Array Bool} {a : Act} {w : World} (hi : ops[i]? = some oi) (hsel : Region.noSelect ops = true) (hf : Region.free md ops listed i = true) (hr : (Region.ready md ops listed).contains i = true)
    (hlk : linksB md ops m i cs = true) (hne : cs.isEmpty = false) (hun : unlB listed cs = true) (hQ : ∀ c a w, Q (.panic c) (a.put oi.dst v) w → Q (.panic c) a w) (hS : S w)
    (hw : Region.wanted oi (yielded ops a.tmps) = true) (hy : ∀ w, S w → (execOp a.eval oi).run P w = .ok (.value v) w)
    (h : AnyT P md ops Q S m f (listed.setIfInBounds i true) (a.put oi.dst v) w) : AnyT P md ops Q S m (f + 1) listed a w :=
  AnyT.first hi hsel hlk (by cases cs <;> simp at hne ⊢) hQ f listed a w (Region.free_spec hi hf) (fun c hc => by
    simp only [unlB, List.all_eq_true, Bool.not_eq_true'] at hun
    exact hun c hc) (by simpa using hr) (.inl ⟨hw, hy⟩) hS h
/-- one alone may come up, not the last -/
theorem AnyT.one {i : Nat} {o : Oper} {f : Nat} {listed : Array Bool} {a : Act} {w : World} (hr : Region.ready md ops listed = [i]) (ho : ops[i]? = some o)
    (h : ∀ K : Act → World → Prop, Hid (∀ a w, S w → (S w → AnyT P md ops Q S m f (listed.setIfInBounds i true) a w) → K a w) → if Region.wanted o (yielded ops a.tmps) = true then Oper.wp P o a w K Q else K (a.put o.dst undef) w) : AnyT P md ops Q S m (f + 1) listed a w :=
  ⟨fun h0 => absurd (hr.symm.trans h0) (by simp), fun j hj => by
    obtain rfl : j = i := by simpa [hr] using hj
    exact wpOp_step ho (fun K hK => h K (Lib.hid fun a w hS hT => hK a w ⟨fun _ => hS, hT hS⟩))⟩
/-- the last comes up -/
theorem AnyT.last {o : Oper} {f : Nat} {listed : Array Bool} {a : Act} {w : World} (hr : Region.ready md ops listed = [m]) (ho : ops[m]? = some o) (hd : Region.ready md ops (listed.setIfInBounds m true) = [])
    (h : ∀ K : Act → World → Prop, Hid (∀ a w, Q .normal a w → K a w) → if Region.wanted o (yielded ops a.tmps) = true then Oper.wp P o a w K Q else K (a.put o.dst undef) w) : AnyT P md ops Q S m (f + 1) listed a w :=
  ⟨fun h0 => absurd (hr.symm.trans h0) (by simp), fun j hj => by
    obtain rfl : j = m := by simpa [hr] using hj
    refine wpOp_step ho (fun K hK => h K (Lib.hid fun a w hq => hK a w ⟨fun h => absurd rfl h, ?_⟩))
    cases f with
    | zero => exact ⟨hd, hq⟩
    | succ f => exact ⟨fun _ => hq, by rw [hd]; simp⟩⟩
theorem region_T {id : Nat} {a : Act} {w : World} (S : World → Prop) (m : Nat) (hm : P.follows .mixedOrders = true) (hS : S w.drew)
    (h : S w.drew → AnyT P .any ops Q S m ops.size (Array.replicate ops.size false) a w.drew) : (Code.region id ops true).wp P Q a w :=
  wp_region_any hm (h hS).any
end
end Go.Proofs.Ytbhobjepjaeffaa
