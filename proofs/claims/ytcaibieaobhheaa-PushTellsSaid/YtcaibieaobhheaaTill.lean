/- Regions that draw their order and store into cells that they load: a load is taken first while its cell still holds ('till' the store that waits for it has come up). -/
import Derived.Deep.RegionHeld2
import Derived.StillTail
namespace Go
section
variable {P : Program} {ops : Array Oper} {Q : Exit → Act → World → Prop} {md : Region.Mode} {S : Array Bool → World → Prop}
/-- What has come up bears all that it waits for. -/
def Region.Bears (md : Region.Mode) (ops : Array Oper) (s : Array Bool) : Prop :=
  s.size = ops.size ∧ ∀ j q, ops[j]? = some q → s.getD j false = true → ∀ e ∈ q.after, Region.binds md e = true → s.getD e.on false = true
/-- The worlds in which number i may still come up. -/
def Region.Till (md : Region.Mode) (ops : Array Oper) (S : Array Bool → World → Prop) (i : Nat) (w : World) : Prop :=
  ∃ s, Region.Bears md ops s ∧ s.getD i false = false ∧ S s w
theorem Region.Bears.set {s : Array Bool} {i : Nat} (h : Region.Bears md ops s) (hi : i ∈ Region.ready md ops s) : Region.Bears md ops (s.setIfInBounds i true) := by
  obtain ⟨_, o, ho, hall⟩ := mem_ready.1 hi
  refine ⟨by simp [h.1], fun j q hq hl e he hb => ?_⟩
  by_cases hij : i = j
  · subst hij
    obtain rfl : q = o := Option.some.inj (hq.symm.trans ho)
    exact getD_set_true (hall e he hb)
  · rw [getD_set_ne false hij] at hl
    exact getD_set_true (h.2 j q hq hl e he hb)
theorem Region.bears_none : Region.Bears md ops (Array.replicate ops.size false) :=
  ⟨by simp, fun j _ _ hl => by
    exfalso
    rcases Nat.lt_or_ge j ops.size with h | h
    · simp [h] at hl
    · simp [h] at hl⟩
theorem Region.unlisted {s : Array Bool} {i : Nat} (h : s.getD i true = false) : s.getD i false = false := by
  rcases Nat.lt_or_ge i s.size with h' | h'
  · simp [h'] at h ⊢; exact h
  · simp [Array.getElem?_eq_none h'] at h

/-- Whatever comes up: behind it S holds of what has come up. -/
def wpTill (P : Program) (md : Region.Mode) (ops : Array Oper) (Q : Exit → Act → World → Prop) (S : Array Bool → World → Prop) : Nat → Array Bool → Act → World → Prop
  | 0, s, a, w => Region.ready md ops s = [] ∧ Q .normal a w
  | m + 1, s, a, w => (Region.ready md ops s = [] → Q .normal a w) ∧
    ∀ i, i ∈ Region.ready md ops s → wpOp P ops Q i (fun a' w' => S (s.setIfInBounds i true) w' ∧ wpTill P md ops Q S m (s.setIfInBounds i true) a' w') a w
theorem wpAny_of_till (m : Nat) : ∀ (s : Array Bool) (a : Act) (w : World), wpTill P md ops Q S m s a w → wpAny P md ops Q m s a w := by
  induction m with
  | zero => exact fun _ _ _ h => h
  | succ m ih => exact fun _ _ _ h => ⟨h.1, fun i hi => wpOp_mono (fun a' w' k => ih _ a' w' k.2) (h.2 i hi)⟩
theorem wpTill_first {i : Nat} {o : Oper} {v : Value} (ho : ops[i]? = some o) (hsel : ∀ (j : Nat) (q : Oper) cs b, ops[j]? = some q → q.op ≠ .select cs b)
    (hQ : ∀ c a w, Q (.panic c) (a.put o.dst v) w → Q (.panic c) a w) (hin : ∀ s w, S (s.setIfInBounds i true) w ↔ S s w) (m : Nat) :
    ∀ (s : Array Bool) (a : Act) (w : World), Region.Bears md ops s →
      (∀ j q, ops[j]? = some q → j ≠ i → s.getD j true = false → (∀ e ∈ q.after, Region.binds md e = true → e.on ≠ i) → o.apart ops q = true) →
      i ∈ Region.ready md ops s → YieldsIf P ops (Region.Till md ops S i) o v a → S s w →
      wpTill P md ops Q S m (s.setIfInBounds i true) (a.put o.dst v) w → wpTill P md ops Q S (m + 1) s a w := by
  induction m with
  | zero =>
    intro s a w hb _ hr hy hS H
    have un := Region.unlisted (mem_ready.1 hr).1
    refine ⟨fun h => (by rw [h] at hr; cases hr), fun j hj => ?_⟩
    by_cases e : j = i
    · subst e; exact hy.wpOp ho ⟨s, hb, un, hS⟩ ⟨(hin s w).2 hS, H⟩
    · have k := ready_mono hj e
      rw [H.1] at k
      cases k
  | succ m ih =>
    intro s a w hb hfree hr hy hS H
    have un := Region.unlisted (mem_ready.1 hr).1
    refine ⟨fun h => (by rw [h] at hr; cases hr), fun j hj => ?_⟩
    by_cases e : j = i
    · subst e; exact hy.wpOp ho ⟨s, hb, un, hS⟩ ⟨(hin s w).2 hS, H⟩
    · obtain ⟨uj, q, hq, hall⟩ := mem_ready.1 hj
      have hno : ∀ e ∈ q.after, Region.binds md e = true → e.on ≠ i := fun e he hbn he2 => by
        have k := hall e he hbn
        rw [he2, un] at k
        cases k
      have k1 := H.2 j (ready_mono hj e)
      have k2 := wpOp_putIf hq (hfree j q hq e uj hno) (fun cs b => hsel i o cs b ho) (fun cs b => hsel j q cs b hq) hQ hy k1
      refine wpOp_mono (fun a' w' k3 => ?_) k2
      obtain ⟨k4, k5, k6⟩ := k3
      rw [Array.setIfInBounds_comm _ _ (Ne.symm e)] at k5 k6
      have k7 := (hin _ w').1 k5
      refine ⟨k7, ih _ a' w' (hb.set hj) (fun k r hk hki huk hnk => hfree k r hk hki ?_ hnk) (ready_mono hr (Ne.symm e)) k4 k7 k6⟩
      by_cases ejk : j = k
      · subst ejk; exact uj
      · rwa [getD_set_ne true ejk] at huk
/-- Number i first: it may come up; it yields v in every world in which it may still come up. -/
theorem wpTill_take {i m : Nat} {o : Oper} {v : Value} {s : Array Bool} {a : Act} {w : World} (ho : ops[i]? = some o) (hs : Region.noSelect ops = true) (hf : Region.free md ops s i = true)
    (hr : (Region.ready md ops s).contains i = true) (hb : Region.Bears md ops s) (hQ : ∀ c a w, Q (.panic c) (a.put o.dst v) w → Q (.panic c) a w) (hin : ∀ s w, S (s.setIfInBounds i true) w ↔ S s w)
    (hy : YieldsIf P ops (Region.Till md ops S i) o v a) (hS : S s w)
    (h : Region.Bears md ops (s.setIfInBounds i true) → S (s.setIfInBounds i true) w → wpTill P md ops Q S m (s.setIfInBounds i true) (a.put o.dst v) w) : wpTill P md ops Q S (m + 1) s a w :=
  have hr' : i ∈ Region.ready md ops s := by simpa using hr
  wpTill_first ho (Region.noSelect_spec hs) hQ hin m s a w hb (Region.free_spec ho hf) hr' hy hS (h (hb.set hr') ((hin s w).2 hS))
/-- The one that may come up. -/
theorem wpTill_one {i m : Nat} {o : Oper} {s : Array Bool} {a : Act} {w : World} (hr : Region.ready md ops s = [i]) (ho : ops[i]? = some o) (hb : Region.Bears md ops s)
    (h : ∀ K : Act → World → Prop, Shut (∀ a w, S (s.setIfInBounds i true) w → (Region.Bears md ops (s.setIfInBounds i true) → S (s.setIfInBounds i true) w → wpTill P md ops Q S m (s.setIfInBounds i true) a w) → K a w) →
      if Region.wanted o (yielded ops a.tmps) = true then Oper.wp P o a w K Q else K (a.put o.dst undef) w) : wpTill P md ops Q S (m + 1) s a w := by
  refine ⟨fun h0 => (by rw [h0] at hr; cases hr), fun j hj => ?_⟩
  have hj2 := hj
  rw [hr] at hj
  obtain rfl : j = i := by simpa using hj
  exact wpOp_step ho fun K hK => h K fun a' w' k1 k2 => hK a' w' ⟨k1, k2 (hb.set hj2) k1⟩
theorem wpTill_done {s : Array Bool} {a : Act} {w : World} (hr : Region.ready md ops s = []) (h : Q .normal a w) : ∀ m, wpTill P md ops Q S m s a w
  | 0 => ⟨hr, h⟩
  | _ + 1 => ⟨fun _ => h, by rw [hr]; simp⟩
theorem wp_region_till {id : Nat} {a : Act} {w : World} (hm : P.follows .mixedOrders = true) (hS : S (Array.replicate ops.size false) w.drew)
    (h : Region.Bears .any ops (Array.replicate ops.size false) → S (Array.replicate ops.size false) w.drew → wpTill P .any ops Q S ops.size (Array.replicate ops.size false) a w.drew) : (Code.region id ops true).wp P Q a w :=
  wp_region_any hm (wpAny_of_till _ _ _ _ (h Region.bears_none hS))
theorem till_flag {s : Array Bool} {i k : Nat} (hw : Region.waitsFor md ops k i = true) (hb : Region.Bears md ops s) (hu : s.getD i false = false) : s.getD k false = false := by
  cases h : s.getD k false with
  | false => rfl
  | true =>
    obtain ⟨q, hq, e, he, hbn, hon⟩ := Region.waitsFor_spec hw
    have := hb.2 k q hq h e he hbn
    rw [hon, hu] at this
    cases this
theorem till_gone {b : Bool} {p : Prop} (h : b = true) : b = false → p := fun k => absurd (h.symm.trans k) (by decide)
end
end Go
