/- Two bodies that push one another: the plain law. -/
import Derived.Test.YtcaibieaobhheaaTouchMath
namespace Go.Proofs.Ytcaibieaobhheaa
open Go.RowKit M
set_option linter.unusedVariables false
namespace M
theorem addV_ok {a b v : V} (h : addV a b = .ok v) : v = (a.1 + b.1, a.2 + b.2) := by
  obtain ⟨x, hx, h⟩ := andThen_ok_iff.1 h
  obtain ⟨y, hy, h⟩ := andThen_ok_iff.1 h
  obtain rfl := Except.ok.inj h
  rw [(addX_ok hx).1, (addX_ok hy).1]
theorem subV_ok {a b v : V} (h : subV a b = .ok v) : v = (a.1 - b.1, a.2 - b.2) := by
  obtain ⟨x, hx, h⟩ := andThen_ok_iff.1 h
  obtain ⟨y, hy, h⟩ := andThen_ok_iff.1 h
  obtain rfl := Except.ok.inj h
  rw [(subX_ok hx).1, (subX_ok hy).1]
theorem scaleV_ok {a v : V} {k : Int} (h : scaleV a k = .ok v) : mulX a.1 k = .ok v.1 ∧ mulX a.2 k = .ok v.2 := by
  obtain ⟨x, hx, h⟩ := andThen_ok_iff.1 h
  obtain ⟨y, hy, h⟩ := andThen_ok_iff.1 h
  obtain rfl := Except.ok.inj h
  exact ⟨hx, hy⟩
/-- What a push leaves as it is, and what it turns. -/
structure Pushed (a b u v : Bd) (j : V) : Prop where
  eu : u = { a with mx := u.mx, my := u.my }
  ev : v = { b with mx := v.mx, my := v.my }
  u0 : a.mass = 0 → u = a
  v0 : b.mass = 0 → v = b
  u1 : a.mass ≠ 0 → u.mx = a.mx - j.1 ∧ u.my = a.my - j.2
  v1 : b.mass ≠ 0 → v.mx = b.mx + j.1 ∧ v.my = b.my + j.2
theorem applyX_ok {a b : Bd} {j : V} {r : Bd × Bd} (h : applyX a b j = .ok r) : Pushed a b r.1 r.2 j := by
  obtain ⟨m, hm, h⟩ := andThen_ok_iff.1 h
  obtain ⟨n, hn, h⟩ := andThen_ok_iff.1 h
  obtain rfl := Except.ok.inj h
  dsimp only
  constructor
  · rfl
  · rfl
  · intro k; rw [if_pos k] at hm; obtain rfl := Except.ok.inj hm; rfl
  · intro k; rw [if_pos k] at hn; obtain rfl := Except.ok.inj hn; rfl
  · intro k; rw [if_neg k] at hm; rw [subV_ok hm]; exact ⟨rfl, rfl⟩
  · intro k; rw [if_neg k] at hn; rw [addV_ok hn]; exact ⟨rfl, rfl⟩
theorem bounceX_ok {a b : Bd} {n : V} {k v : Int} {r : Bd × Bd} (h : bounceX a b n k v = .ok r) :
    (¬ v < 0 ∧ r = (a, b)) ∨ (v < 0 ∧ ∃ j g, scaleV n j = .ok g ∧ Pushed a b r.1 r.2 g) := by
  unfold bounceX at h
  split at h
  · rename_i hv
    obtain ⟨t, _, h⟩ := andThen_ok_iff.1 h
    obtain ⟨s, _, h⟩ := andThen_ok_iff.1 h
    obtain ⟨j, _, h⟩ := andThen_ok_iff.1 h
    obtain ⟨g, hg, h⟩ := andThen_ok_iff.1 h
    exact .inr ⟨hv, j, g, hg, applyX_ok h⟩
  · rename_i hv
    exact .inl ⟨hv, (Except.ok.inj h).symm⟩
structure Parted (a b : Bd) (h : Ht) (k : Int) (u v : Bd) (c la lb x y : Int) (g f : V) : Prop where
  ec : divX (h.d.tdiv 2) k = .ok c
  ela : lightX a = .ok la
  elb : lightX b = .ok lb
  ex : mulX c la = .ok x
  ey : mulX c lb = .ok y
  eg : scaleV (h.nx, h.ny) x = .ok g
  ef : scaleV (h.nx, h.ny) y = .ok f
  eu : u = { a with px := a.px - g.1, py := a.py - g.2 }
  ev : v = { b with px := b.px + f.1, py := b.py + f.2 }
theorem partsX_ok {a b : Bd} {h : Ht} {k : Int} {r : Bd × Bd} (hh : partsX a b h k = .ok r) : ∃ c la lb x y g f, Parted a b h k r.1 r.2 c la lb x y g f := by
  obtain ⟨c, h1, hh⟩ := andThen_ok_iff.1 hh
  obtain ⟨la, h2, hh⟩ := andThen_ok_iff.1 hh
  obtain ⟨x, h3, hh⟩ := andThen_ok_iff.1 hh
  obtain ⟨g, h4, hh⟩ := andThen_ok_iff.1 hh
  obtain ⟨p, h5, hh⟩ := andThen_ok_iff.1 hh
  obtain ⟨lb, h6, hh⟩ := andThen_ok_iff.1 hh
  obtain ⟨y, h7, hh⟩ := andThen_ok_iff.1 hh
  obtain ⟨f, h8, hh⟩ := andThen_ok_iff.1 hh
  obtain ⟨q, h9, hh⟩ := andThen_ok_iff.1 hh
  obtain rfl := Except.ok.inj hh
  exact ⟨c, la, lb, x, y, g, f, h1, h2, h6, h3, h7, h4, h8, by rw [subV_ok h5]; rfl, by rw [addV_ok h9]; rfl⟩
theorem contactX_ok {a b : Bd} {h : Ht} {r : Bd × Bd} (hh : contactX a b h = .ok r) :
    ∃ k, bothK a b = .ok k ∧ ((k = 0 ∧ r = (a, b)) ∨ (k ≠ 0 ∧ ∃ v c, speedK a b (h.nx, h.ny) = .ok v ∧ bounceX a b (h.nx, h.ny) k v = .ok c ∧ partsX c.1 c.2 h k = .ok r)) := by
  obtain ⟨k, h1, hh⟩ := andThen_ok_iff.1 hh
  refine ⟨k, h1, ?_⟩
  split at hh
  · rename_i hk; exact .inl ⟨hk, (Except.ok.inj hh).symm⟩
  · rename_i hk
    obtain ⟨v, h2, hh⟩ := andThen_ok_iff.1 hh
    obtain ⟨c, h3, hh⟩ := andThen_ok_iff.1 hh
    exact .inr ⟨hk, v, c, h2, h3, hh⟩
theorem jointX_ok {a b : Bd} {l : Int} {r : Bd × Bd} (hh : jointX a b l = .ok r) :
    r = (a, b) ∨ ∃ k, bothK a b = .ok k ∧ k ≠ 0 ∧ ∃ g, Pushed a b r.1 r.2 g := by
  obtain ⟨d, h1, hh⟩ := andThen_ok_iff.1 hh
  obtain ⟨u, h2, hh⟩ := andThen_ok_iff.1 hh
  split at hh
  · exact .inl (Except.ok.inj hh).symm
  · obtain ⟨k, h3, hh⟩ := andThen_ok_iff.1 hh
    split at hh
    · exact .inl (Except.ok.inj hh).symm
    · rename_i hk
      obtain ⟨v, _, hh⟩ := andThen_ok_iff.1 hh
      obtain ⟨s, _, hh⟩ := andThen_ok_iff.1 hh
      obtain ⟨m, _, hh⟩ := andThen_ok_iff.1 hh
      obtain ⟨t, _, hh⟩ := andThen_ok_iff.1 hh
      obtain ⟨z, _, hh⟩ := andThen_ok_iff.1 hh
      obtain ⟨j, _, hh⟩ := andThen_ok_iff.1 hh
      obtain ⟨g, _, hh⟩ := andThen_ok_iff.1 hh
      exact .inr ⟨k, h3, hk, g, applyX_ok hh⟩
/-- The bounce, whichever way it goes: as a push. -/
theorem bounce_keeps {a b : Bd} {n : V} {k v : Int} {r : Bd × Bd} (h : bounceX a b n k v = .ok r) (ha : a.mass ≠ 0) (hb : b.mass ≠ 0) :
    r.1.mx + r.2.mx = a.mx + b.mx ∧ r.1.my + r.2.my = a.my + b.my ∧ r.1.mass = a.mass ∧ r.2.sx = b.sx ∧ r.2.sy = b.sy := by
  rcases bounceX_ok h with ⟨_, rfl⟩ | ⟨_, j, g, hg, p⟩
  · exact ⟨rfl, rfl, rfl, rfl, rfl⟩
  · have e1 := p.u1 ha
    have e2 := p.v1 hb
    refine ⟨by omega, by omega, ?_, ?_, ?_⟩
    · rw [p.eu]
    · rw [p.ev]
    · rw [p.ev]
/-- PushKeeps. -/
def Keeps (a b : Bd) (r : Bd × Bd) : Prop := r.1.mx + r.2.mx = a.mx + b.mx ∧ r.1.my + r.2.my = a.my + b.my ∧ r.1.mass = a.mass ∧ r.2.sx = b.sx ∧ r.2.sy = b.sy
theorem pushed_keeps {a b u v : Bd} {j : V} (p : Pushed a b u v j) (ha : a.mass ≠ 0) (hb : b.mass ≠ 0) : Keeps a b (u, v) := by
  have e1 := p.u1 ha
  have e2 := p.v1 hb
  refine ⟨by dsimp only; omega, by dsimp only; omega, ?_, ?_, ?_⟩
  · dsimp only; rw [p.eu]
  · dsimp only; rw [p.ev]
  · dsimp only; rw [p.ev]
theorem apply_keeps {a b : Bd} {j : V} {r : Bd × Bd} (h : applyX a b j = .ok r) (ha : a.mass ≠ 0) (hb : b.mass ≠ 0) : Keeps a b r := pushed_keeps (applyX_ok h) ha hb
theorem contact_keeps {a b : Bd} {h : Ht} {r : Bd × Bd} (hh : contactX a b h = .ok r) (ha : a.mass ≠ 0) (hb : b.mass ≠ 0) : Keeps a b r := by
  obtain ⟨k, _, ⟨_, rfl⟩ | ⟨_, v, c, _, hc, hp⟩⟩ := contactX_ok hh
  · exact ⟨rfl, rfl, rfl, rfl, rfl⟩
  · have e := bounce_keeps hc ha hb
    obtain ⟨_, _, _, _, _, g, f, P⟩ := partsX_ok hp
    have pu := P.eu
    have pv := P.ev
    unfold Keeps
    rw [pu, pv]
    exact e
theorem joint_keeps {a b : Bd} {l : Int} {r : Bd × Bd} (hh : jointX a b l = .ok r) (ha : a.mass ≠ 0) (hb : b.mass ≠ 0) : Keeps a b r := by
  rcases jointX_ok hh with rfl | ⟨k, _, _, g, p⟩
  · exact ⟨rfl, rfl, rfl, rfl, rfl⟩
  · exact pushed_keeps p ha hb

/-! ### signs -/
theorem divX_nonneg {a b q : Int} (h : divX a b = .ok q) (ha : 0 ≤ a) (hb : 0 ≤ b) : 0 ≤ q := by
  have e := liftR_ok.1 h
  unfold divR at e
  split at e
  · simp at e
  · rw [decide_eq_false (show ¬ a < 0 by omega), decide_eq_false (show ¬ b < 0 by omega)] at e
    have h0 : 0 ≤ absF a * 4294967296 / absF b := Int.ediv_nonneg (Int.mul_nonneg (absF_nonneg a) (by omega)) (absF_nonneg b)
    unfold wholeR at e
    simp at e
    split at e
    · obtain ⟨rfl, _⟩ := Prod.mk.inj e; exact h0
    · obtain ⟨rfl, _⟩ := Prod.mk.inj e; omega
theorem mulX_nonneg {a b q : Int} (h : mulX a b = .ok q) (ha : 0 ≤ a) (hb : 0 ≤ b) : 0 ≤ q := by
  have e := liftR_ok.1 h
  unfold mulR at e
  rw [decide_eq_false (show ¬ a < 0 by omega), decide_eq_false (show ¬ b < 0 by omega)] at e
  have h0 : 0 ≤ absF a * absF b / 4294967296 := Int.ediv_nonneg (Int.mul_nonneg (absF_nonneg a) (absF_nonneg b)) (by omega)
  unfold wholeR at e
  simp at e
  split at e
  · obtain ⟨rfl, _⟩ := Prod.mk.inj e; exact h0
  · obtain ⟨rfl, _⟩ := Prod.mk.inj e; omega
theorem lightX_nonneg {b : Bd} {l : Int} (h : lightX b = .ok l) (hm : 0 ≤ b.mass) : 0 ≤ l := by
  unfold lightX at h
  split at h
  · obtain rfl := Except.ok.inj h; omega
  · exact divX_nonneg h (by omega) hm
theorem scale_one {x : Int} {g : V} (h : scaleV (4294967296, 0) x = .ok g) (hx : I64 x) : g = (x, 0) := by
  obtain ⟨h1, h2⟩ := scaleV_ok h
  dsimp only at h1 h2
  rw [one_mulX hx] at h1
  rw [zero_mulX] at h2
  obtain ⟨g1, g2⟩ := g
  dsimp only at h1 h2
  rw [← Except.ok.inj h1, ← Except.ok.inj h2]
/-- PushApart. -/
theorem contact_apart {a b : Bd} {d : Int} {r : Bd × Bd} (hd : 0 ≤ d) (hh : contactX a b ⟨4294967296, 0, d⟩ = .ok r) (ha : 0 < a.mass) (hb : 0 < b.mass) :
    r.1.px ≤ a.px ∧ b.px ≤ r.2.px ∧ r.1.py = a.py ∧ r.2.py = b.py ∧ r.1.my = a.my ∧ r.2.my = b.my := by
  obtain ⟨k, hk, ⟨_, rfl⟩ | ⟨_, v, c, _, hc, hp⟩⟩ := contactX_ok hh
  · exact ⟨Int.le_refl _, Int.le_refl _, rfl, rfl, rfl, rfl⟩
  · have e : c.1.px = a.px ∧ c.1.py = a.py ∧ c.1.my = a.my ∧ c.1.mass = a.mass ∧ c.2.px = b.px ∧ c.2.py = b.py ∧ c.2.my = b.my ∧ c.2.mass = b.mass := by
      rcases bounceX_ok hc with ⟨_, rfl⟩ | ⟨_, j, g, hg, p⟩
      · exact ⟨rfl, rfl, rfl, rfl, rfl, rfl, rfl, rfl⟩
      · have e1 := p.u1 (by omega)
        have e2 := p.v1 (by omega)
        have h2 := (scaleV_ok hg).2
        dsimp only at h2
        rw [zero_mulX] at h2
        have h3 := Except.ok.inj h2
        have pu := p.eu
        have pv := p.ev
        have m1 : c.1.my = a.my := by omega
        have m2 : c.2.my = b.my := by omega
        refine ⟨?_, ?_, m1, ?_, ?_, ?_, m2, ?_⟩
        · rw [pu]
        · rw [pu]
        · rw [pu]
        · rw [pv]
        · rw [pv]
        · rw [pv]
    obtain ⟨w, la, lb, x, y, g, f, P⟩ := partsX_ok hp
    have hk0 : 0 ≤ k := by
      obtain ⟨l1, q1, hk⟩ := andThen_ok_iff.1 hk
      obtain ⟨l2, q2, hk⟩ := andThen_ok_iff.1 hk
      have := lightX_nonneg q1 (by omega)
      have := lightX_nonneg q2 (by omega)
      have := (addX_ok hk).1
      omega
    have w0 := divX_nonneg P.ec (Int.tdiv_nonneg hd (by omega)) hk0
    have l0 := lightX_nonneg P.ela (by omega)
    have l1 := lightX_nonneg P.elb (by omega)
    have x0 := mulX_nonneg P.ex w0 l0
    have y0 := mulX_nonneg P.ey w0 l1
    have eg := scale_one P.eg (mulX_i64 P.ex)
    have ef := scale_one P.ef (mulX_i64 P.ey)
    rw [P.eu, P.ev, eg, ef]
    dsimp only
    omega
/-- PushFixed. -/
theorem light_0 {b : Bd} (h : b.mass = 0) : lightX b = .ok 0 := by unfold lightX; rw [if_pos h]
theorem contact_fixed {a b : Bd} {h : Ht} {r : Bd × Bd} (hh : contactX a b h = .ok r) (ha : a.mass = 0) : r.1 = a ∧ (b.mass = 0 → r.2 = b) := by
  obtain ⟨k, hk, ⟨_, rfl⟩ | ⟨hk0, v, c, _, hc, hp⟩⟩ := contactX_ok hh
  · exact ⟨rfl, fun _ => rfl⟩
  · have e : c.1 = a := by
      rcases bounceX_ok hc with ⟨_, rfl⟩ | ⟨_, j, g, hg, p⟩
      · rfl
      · exact p.u0 ha
    constructor
    · obtain ⟨w, la, lb, x, y, g, f, P⟩ := partsX_ok hp
      have e1 := P.ela
      rw [e, light_0 ha] at e1
      obtain rfl := Except.ok.inj e1
      have e2 := P.ex
      rw [mulX_zero] at e2
      obtain rfl := Except.ok.inj e2
      obtain ⟨h1, h2⟩ := scaleV_ok P.eg
      rw [mulX_zero] at h1 h2
      rw [P.eu, ← Except.ok.inj h1, ← Except.ok.inj h2, e]
      simp
    · intro hb
      exfalso
      unfold bothK at hk
      rw [light_0 ha, andThen_ok, light_0 hb, andThen_ok, addX_in (by unfold I64; omega)] at hk
      have := Except.ok.inj hk
      omega
theorem joint_fixed {a b : Bd} {l : Int} {r : Bd × Bd} (hh : jointX a b l = .ok r) (ha : a.mass = 0) : r.1 = a ∧ (b.mass = 0 → r.2 = b) := by
  rcases jointX_ok hh with rfl | ⟨k, _, _, g, p⟩
  · exact ⟨rfl, fun _ => rfl⟩
  · exact ⟨p.u0 ha, p.v0⟩
/-- PushNothing. -/
theorem addV_0 {a : V} (h1 : I64 a.1) (h2 : I64 a.2) : addV a (0, 0) = .ok a := by
  unfold addV; dsimp only; rw [addX_in (by rw [Int.add_zero]; exact h1), andThen_ok, addX_in (by rw [Int.add_zero]; exact h2), andThen_ok, Int.add_zero, Int.add_zero]
theorem subV_0 {a : V} (h1 : I64 a.1) (h2 : I64 a.2) : subV a (0, 0) = .ok a := by
  unfold subV; dsimp only; rw [subX_in (by rw [Int.sub_zero]; exact h1), andThen_ok, subX_in (by rw [Int.sub_zero]; exact h2), andThen_ok, Int.sub_zero, Int.sub_zero]
theorem apply_nothing {a b : Bd} (ha : a.ok) (hb : b.ok) : applyX a b (0, 0) = .ok (a, b) := by
  unfold applyX
  have e1 : (if a.mass = 0 then (.ok a.mom : X V) else subV a.mom (0, 0)) = .ok a.mom := by
    split
    · rfl
    · exact subV_0 ha.mx ha.my
  have e2 : (if b.mass = 0 then (.ok b.mom : X V) else addV b.mom (0, 0)) = .ok b.mom := by
    split
    · rfl
    · exact addV_0 hb.mx hb.my
  rw [e1, andThen_ok, e2, andThen_ok]; rfl
theorem mulX_whole {a k : Int} (ha : absF a * absF k ≤ 9223372036854775807) (hk : -2147483648 ≤ k ∧ k ≤ 2147483647) : mulX a (k * 4294967296) = .ok (a * k) := by
  have e : absF a * absF (k * 4294967296) / 4294967296 = absF a * absF k := by
    have : absF (k * 4294967296) = absF k * 4294967296 := by unfold absF; split <;> split <;> omega
    rw [this, ← Int.mul_assoc, Int.mul_ediv_cancel _ (by omega)]
  rw [mulX_fit (by rw [e]; exact ha), e]
  congr 1
  have d : decide (k * 4294967296 < 0) = decide (k < 0) := by
    by_cases h : k < 0
    · rw [decide_eq_true h, decide_eq_true (by omega)]
    · rw [decide_eq_false h, decide_eq_false (by omega)]
  rw [d]
  by_cases h1 : a < 0 <;> by_cases h2 : k < 0 <;> simp only [h1, h2, decide_true, decide_false] <;> simp only [absF, h1, h2, if_true, if_false, bne_self_eq_false, Bool.false_eq_true] <;> simp [Int.neg_mul, Int.mul_neg]
theorem rod (n l : Int) (hn : 1 ≤ n ∧ n ≤ 500) (hl : 0 ≤ l ∧ l ≤ 500) (d : V) (hd : Near d 4611686018427387904) (e1 : nrm d = n * 4294967296) (e2 : uV d = (4294967296, 0) ∨ uV d = (0, 4294967296)) (sh sx sy : Int) :
    jointX ⟨sh, sx, sy, 4294967296, 0, 0, 0, 0⟩ ⟨sh, sx, sy, 4294967296, d.1, d.2, 0, 0⟩ (l * 4294967296)
      = .ok (⟨sh, sx, sy, 4294967296, 0, 0, (uV d).1 / 4294967296 * ((n - l) * 17179869184), (uV d).2 / 4294967296 * ((n - l) * 17179869184)⟩,
        ⟨sh, sx, sy, 4294967296, d.1, d.2, -((uV d).1 / 4294967296 * ((n - l) * 17179869184)), -((uV d).2 / 4294967296 * ((n - l) * 17179869184))⟩) := by
  have z : I64 0 := by unfold I64; omega
  have zz : addX 0 0 = .ok 0 := addX_in z
  have zs : subX 0 0 = .ok 0 := subX_in z
  have o1 : divX 4294967296 4294967296 = .ok 4294967296 := divX_one (by unfold I64; omega)
  have o2 : divX 0 4294967296 = .ok 0 := divX_one z
  have o3 : addX 4294967296 4294967296 = .ok 8589934592 := addX_in (by unfold I64; omega)
  obtain ⟨d1, d2⟩ := d
  unfold Near at hd
  dsimp only at hd
  have s1 : subV (d1, d2) (0, 0) = .ok (d1, d2) := subV_0 (by unfold I64; dsimp only; omega) (by unfold I64; dsimp only; omega)
  have hu := unitX_near (d := (d1, d2)) (by unfold Near; exact hd)
  have p1 : subX (n * 4294967296) (l * 4294967296) = .ok ((n - l) * 4294967296) := by
    rw [subX_in (by unfold I64; omega)]; congr 1; omega
  have p2 : mulX ((n - l) * 4294967296) 34359738368 = .ok ((n - l) * 4294967296 * 8) :=
    mulX_whole (k := 8) (by rw [absF_of_nonneg (a := 8) (by omega)]; unfold absF; split <;> omega) (by omega)
  have p3 : addX 0 ((n - l) * 4294967296 * 8) = .ok ((n - l) * 34359738368) := by rw [addX_in (by unfold I64; omega)]; congr 1; omega
  have p4 : subX 0 ((n - l) * 34359738368) = .ok (-((n - l) * 34359738368)) := by rw [subX_in (by unfold I64; omega)]; congr 1; omega
  have p5 : divX (-((n - l) * 34359738368)) 8589934592 = .ok (-((n - l) * 17179869184)) := by
    rw [divX_pos (by omega) (by unfold absF; split <;> omega)]; congr 1; unfold sq absF; split <;> omega
  have hj : I64 (-((n - l) * 17179869184)) := by unfold I64; omega
  unfold jointX Bd.pos
  dsimp only
  rw [s1, andThen_ok, hu, andThen_ok]
  dsimp only
  rw [e1, if_neg (by omega)]
  unfold bothK lightX speedK speedX Bd.mom
  dsimp only
  rw [if_neg (by omega), o1, andThen_ok, andThen_ok, o3, andThen_ok, if_neg (by omega), if_neg (by omega)]
  unfold overV
  dsimp only
  rw [o2, andThen_ok, andThen_ok, andThen_ok, andThen_ok, subV_0 z z, andThen_ok]
  unfold dotX
  dsimp only
  rw [zero_mulX, andThen_ok, zero_mulX, andThen_ok, zz, andThen_ok, p1, andThen_ok, p2, andThen_ok, p3, andThen_ok, p4, andThen_ok, p5, andThen_ok]
  unfold scaleV applyX Bd.mom subV addV
  rcases e2 with e2 | e2
  · rw [e2]
    dsimp only
    rw [one_mulX hj, andThen_ok, zero_mulX, andThen_ok, andThen_ok, if_neg (by omega)]
    dsimp only
    rw [subX_in (by unfold I64; omega), andThen_ok, zs, andThen_ok, andThen_ok, if_neg (by omega)]
    rw [addX_in (by unfold I64; omega), andThen_ok, zz, andThen_ok, andThen_ok]
    simp
  · rw [e2]
    dsimp only
    rw [zero_mulX, andThen_ok, one_mulX hj, andThen_ok, andThen_ok, if_neg (by omega)]
    dsimp only
    rw [zs, andThen_ok, subX_in (by unfold I64; omega), andThen_ok, andThen_ok, if_neg (by omega)]
    rw [zz, andThen_ok, addX_in (by unfold I64; omega), andThen_ok, andThen_ok]
    simp
end M
end Go.Proofs.Ytcaibieaobhheaa
