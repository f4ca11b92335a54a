/- Pairs of variables that a closure sets; outcomes that are pairs, known to be values. -/
import Derived.Test.YtcaibieaobhheaaVar2
namespace Go.Proofs.Ytcaibieaobhheaa
open Go.RowKit M
set_option linter.unusedVariables false
namespace M
structure Stop (p : Prop) : Prop where
  out : p
theorem stopPost {P : Program} {f : Func} {Q : Ending → World → Prop} {e : Exit} {a : Act} {w : World} (h : Stop (bodyPost P f Q e a w)) : bodyPost P f Q e a w := h.out
theorem pcell_alloc {w : World} {pb : Nat} {e : Int} (h : PCell w pb e) (o : Obj) : PCell (w.alloc o) pb e := by
  have k := (Below.refl w.heap.size w).alloc (Nat.le_refl _) o
  exact ⟨Nat.lt_of_lt_of_le h.1 k.size, (k.cell (p := ⟨pb, 0, none⟩) h.1).trans h.2.1, (k.frozen (p := ⟨pb, 0, none⟩) h.1).trans h.2.2⟩
theorem pcell_drewN {w : World} {pb : Nat} {e : Int} (h : PCell w pb e) (n : Nat) : PCell (w.drewN n) pb e := h
theorem pcell_drew {w : World} {pb : Nat} {e : Int} (h : PCell w pb e) : PCell w.drew pb e := h
theorem pcell_far {w : World} {pb : Nat} {e : Int} (h : PCell w pb e) (p : Addr) (v : Value) (hp : p.block ≠ pb) : PCell (w.setCell p v) pb e :=
  ⟨by rw [setCell_size]; exact h.1, (World.cell?_setCell_far _ _ _ _ hp).trans h.2.1, (World.frozen?_setCell _ _ _ _).trans h.2.2⟩
theorem pcell_below {w w' : World} {pb : Nat} {e : Int} (h : PCell w pb e) (k : Below w.heap.size w w') : PCell w' pb e :=
  ⟨Nat.lt_of_lt_of_le h.1 k.size, (k.cell (p := ⟨pb, 0, none⟩) h.1).trans h.2.1, (k.frozen (p := ⟨pb, 0, none⟩) h.1).trans h.2.2⟩
theorem var_rw {W w1 : World} {pb b : Nat} {e : Int} {cs : Array Value} (h : Var W b cs) (hn : pb ≠ b) (k : RW pb e W w1) : Var w1 b cs :=
  Var.mono' (u := W.setCell ⟨pb, 0, none⟩ (.int .i64 e)) (h.far _ _ hn) (setCell_size _ _ _) k
theorem opt {T G : Prop} (h : T) (k : T → G) : G := k h
def fstX {α β : Type} : X (α × β) → X α | .ok x => .ok x.1 | .error n => .error n
def sndX {α β : Type} : X (α × β) → X β | .ok x => .ok x.2 | .error n => .error n
def usB (pb : Nat) : X Bool → List (Addr × Value) | .ok x => [(⟨pb, 0, none⟩, .bool x)] | .error _ => []
theorem var_setB {w : World} {b : Nat} {c0 : Value} (h : Var w b #[c0]) (x : Bool) : Var (w.setCell ⟨b, 0, none⟩ (.bool x)) b #[.bool x] := h.set 0 _ (by simp)
theorem var_set2 {w : World} {b : Nat} {c0 c1 c2 c3 c4 c5 c6 c7 : Value} (h : Var w b #[c0, c1, c2, c3, c4, c5, c6, c7]) (x : Value) : Var (w.setCell ⟨b, 2, none⟩ x) b #[c0, c1, x, c3, c4, c5, c6, c7] := h.set 2 x (by simp)
theorem var_set6 {w : World} {b : Nat} {c0 c1 c2 c3 c4 c5 c6 c7 : Value} (h : Var w b #[c0, c1, c2, c3, c4, c5, c6, c7]) (x : Value) : Var (w.setCell ⟨b, 6, none⟩ x) b #[c0, c1, c2, c3, c4, c5, x, c7] := h.set 6 x (by simp)
theorem var_set7 {w : World} {b : Nat} {c0 c1 c2 c3 c4 c5 c6 c7 : Value} (h : Var w b #[c0, c1, c2, c3, c4, c5, c6, c7]) (x : Value) : Var (w.setCell ⟨b, 7, none⟩ x) b #[c0, c1, c2, c3, c4, c5, c6, x] := h.set 7 x (by simp)
theorem var_set67 {w : World} {b : Nat} {c0 c1 c2 c3 c4 c5 c6 c7 : Value} (h : Var w b #[c0, c1, c2, c3, c4, c5, c6, c7]) (x y : Value) : Var ((w.setCell ⟨b, 6, none⟩ x).setCell ⟨b, 7, none⟩ y) b #[c0, c1, c2, c3, c4, c5, x, y] := var_set7 (var_set6 h x) y
theorem var_setF {w : World} {b : Nat} {c0 c1 : Value} (h : Var w b #[c0, c1]) (x : Value) : Var (w.setCell ⟨b, 0, none⟩ x) b #[x, c1] := h.set 0 x (by simp)
theorem var_set3 {w : World} {b : Nat} {c0 c1 c2 c3 c4 c5 c6 c7 : Value} (h : Var w b #[c0, c1, c2, c3, c4, c5, c6, c7]) (x : Value) : Var (w.setCell ⟨b, 3, none⟩ x) b #[c0, c1, c2, x, c4, c5, c6, c7] := h.set 3 x (by simp)
theorem var_set4 {w : World} {b : Nat} {c0 c1 c2 c3 c4 c5 c6 c7 : Value} (h : Var w b #[c0, c1, c2, c3, c4, c5, c6, c7]) (x : Value) : Var (w.setCell ⟨b, 4, none⟩ x) b #[c0, c1, c2, c3, x, c5, c6, c7] := h.set 4 x (by simp)
theorem var_set5 {w : World} {b : Nat} {c0 c1 c2 c3 c4 c5 c6 c7 : Value} (h : Var w b #[c0, c1, c2, c3, c4, c5, c6, c7]) (x : Value) : Var (w.setCell ⟨b, 5, none⟩ x) b #[c0, c1, c2, c3, c4, x, c6, c7] := h.set 5 x (by simp)
theorem var_set45 {w : World} {b : Nat} {c0 c1 c2 c3 c4 c5 c6 c7 : Value} (h : Var w b #[c0, c1, c2, c3, c4, c5, c6, c7]) (x y : Value) : Var ((w.setCell ⟨b, 4, none⟩ x).setCell ⟨b, 5, none⟩ y) b #[c0, c1, c2, c3, x, y, c6, c7] := var_set5 (var_set4 h x) y
theorem usB_block {pb : Nat} {P : X Bool} {u : Addr × Value} (h : u ∈ usB pb P) : u.1.block = pb := by
  cases P with
  | ok q => simp [usB] at h; rw [h]
  | error n => simp [usB] at h
theorem ret_Hb {P : X (Ht × Bool)} {en : Ending} {q : Ht} {t : Bool} (h : P = .ok (q, t)) (c : OutHb P en) : en = .returned (.tuple #[.agg #[.int .i64 q.nx, .int .i64 q.ny, .int .i64 q.d], .bool t]) := by
  rcases c with ⟨n, e, _, _⟩ | ⟨v, u, e, _, r⟩
  · rw [h] at e; cases e
  · rw [h] at e; obtain ⟨rfl, rfl⟩ := Prod.mk.inj (Except.ok.inj e); exact r
theorem err_Hb {P : X (Ht × Bool)} {en : Ending} {n : Int} (h : P = .error n) (c : OutHb P en) : n ≠ 0 ∧ en = panics n := by
  rcases c with ⟨m, e, k, r⟩ | ⟨v, u, e, _, r⟩
  · rw [h] at e; obtain rfl := Except.error.inj e; exact ⟨k, r⟩
  · rw [h] at e; cases e
theorem ret_Ht {P : X Ht} {en : Ending} {q : Ht} (h : P = .ok q) (c : OutHt P en) : en = .returned (.agg #[.int .i64 q.nx, .int .i64 q.ny, .int .i64 q.d]) := by
  rcases c with ⟨n, e, _, _⟩ | ⟨v, e, _, r⟩
  · rw [h] at e; cases e
  · rw [h] at e; obtain rfl := Except.ok.inj e; exact r
theorem err_Ht {P : X Ht} {en : Ending} {n : Int} (h : P = .error n) (c : OutHt P en) : n ≠ 0 ∧ en = panics n := by
  rcases c with ⟨m, e, k, r⟩ | ⟨v, e, _, r⟩
  · rw [h] at e; obtain rfl := Except.error.inj e; exact ⟨k, r⟩
  · rw [h] at e; cases e
theorem ret_BB {P : X (Bd × Bd)} {en : Ending} {u v : Bd} (h : P = .ok (u, v)) (c : OutBB P en) : en = .returned (.tuple #[.agg #[.int .i64 u.shape, .int .i64 u.sx, .int .i64 u.sy, .int .i64 u.mass, .int .i64 u.px, .int .i64 u.py, .int .i64 u.mx, .int .i64 u.my], .agg #[.int .i64 v.shape, .int .i64 v.sx, .int .i64 v.sy, .int .i64 v.mass, .int .i64 v.px, .int .i64 v.py, .int .i64 v.mx, .int .i64 v.my]]) := by
  rcases c with ⟨n, e, _, _⟩ | ⟨x, y, e, _, _, r⟩
  · rw [h] at e; cases e
  · rw [h] at e; obtain ⟨rfl, rfl⟩ := Prod.mk.inj (Except.ok.inj e); exact r
theorem err_BB {P : X (Bd × Bd)} {en : Ending} {n : Int} (h : P = .error n) (c : OutBB P en) : n ≠ 0 ∧ en = panics n := by
  rcases c with ⟨m, e, k, r⟩ | ⟨x, y, e, _, _, r⟩
  · rw [h] at e; obtain rfl := Except.error.inj e; exact ⟨k, r⟩
  · rw [h] at e; cases e
theorem nz_add (a b : Int) : NZ (addX a b) := nz_lift _
theorem nz_sub (a b : Int) : NZ (subX a b) := nz_lift _
theorem nz_mul (a b : Int) : NZ (mulX a b) := nz_lift _
theorem nz_div (a b : Int) : NZ (divX a b) := nz_lift _
theorem nz_addV (a b : V) : NZ (addV a b) := nz_then (nz_lift _) fun _ => nz_then (nz_lift _) fun _ => nz_ok _
theorem nz_subV (a b : V) : NZ (subV a b) := nz_then (nz_lift _) fun _ => nz_then (nz_lift _) fun _ => nz_ok _
theorem nz_scale (a : V) (k : Int) : NZ (scaleV a k) := nz_then (nz_lift _) fun _ => nz_then (nz_lift _) fun _ => nz_ok _
theorem nz_part (a n : Int) : NZ (partX a n) := by
  intro m h; unfold partX at h; split at h
  · obtain rfl := Except.error.inj h; omega
  · split at h
    · obtain rfl := Except.error.inj h; omega
    · cases h
theorem nz_share (a : V) (n : Int) : NZ (shareV a n) := nz_then (nz_part _ _) fun _ => nz_then (nz_part _ _) fun _ => nz_ok _
theorem nz_len (a b : Int) : NZ (lenX a b) := nz_lift _
theorem nz_unit (a : V) : NZ (unitX a) := nz_then (nz_lift _) fun n => by
  split
  · exact nz_ok _
  · exact nz_then (nz_over _ _) fun _ => nz_ok _
theorem nz_flip (h : Ht) : NZ (flipX h) := nz_then (nz_subV _ _) fun _ => nz_ok _
theorem nz_overlap (a b d : Int) : NZ (overlapX a b d) := nz_then (nz_lift _) fun _ => nz_then (by split; exact nz_lift _; exact nz_ok _) fun _ => nz_lift _
theorem nz_crates (a b : Bd) : NZ (cratesX a b) := nz_then (nz_subV _ _) fun _ => nz_then (nz_overlap _ _ _) fun _ => by
  split
  · exact nz_ok _
  · exact nz_then (nz_overlap _ _ _) fun _ => by split; exact nz_ok _; exact nz_ok _
theorem nz_balls (a b : Bd) : NZ (ballsX a b) := nz_then (nz_subV _ _) fun _ => nz_then (nz_unit _) fun _ => nz_then (nz_lift _) fun _ => nz_then (nz_lift _) fun _ => nz_ok _
theorem nz_bothX (a b : Bd) : NZ (bothX a b) := nz_then (nz_box _) fun _ => nz_then (nz_subV _ _) fun _ => nz_then (nz_unit _) fun _ => by
  split
  · exact nz_crates _ _
  · exact nz_then (nz_lift _) fun _ => nz_ok _
theorem nz_hit (a b : Bd) : NZ (hitX a b) := by
  unfold hitX
  split
  · exact nz_balls _ _
  · split
    · exact nz_crates _ _
    · split
      · exact nz_bothX _ _
      · split
        · exact nz_then (nz_bothX _ _) fun _ => nz_then (nz_flip _) fun _ => nz_ok _
        · exact nz_ok _
theorem nz_apply (a b : Bd) (j : V) : NZ (applyX a b j) := nz_then (by split; exact nz_ok _; exact nz_subV _ _) fun _ => nz_then (by split; exact nz_ok _; exact nz_addV _ _) fun _ => nz_ok _
theorem nz_bothK (a b : Bd) : NZ (bothK a b) := nz_then (nz_light _) fun _ => nz_then (nz_light _) fun _ => nz_lift _
theorem nz_speedK (a b : Bd) (n : V) : NZ (speedK a b n) := nz_then (nz_speed _) fun _ => nz_then (nz_speed _) fun _ => nz_then (nz_subV _ _) fun _ => nz_dot _ _
theorem nz_bounce (a b : Bd) (n : V) (k v : Int) : NZ (bounceX a b n k v) := by
  unfold bounceX; split
  · exact nz_then (nz_lift _) fun _ => nz_then (nz_lift _) fun _ => nz_then (nz_lift _) fun _ => nz_then (nz_scale _ _) fun _ => nz_apply _ _ _
  · exact nz_ok _
theorem nz_parts (a b : Bd) (h : Ht) (k : Int) : NZ (partsX a b h k) := nz_then (nz_lift _) fun _ => nz_then (nz_light _) fun _ => nz_then (nz_lift _) fun _ => nz_then (nz_scale _ _) fun _ => nz_then (nz_subV _ _) fun _ => nz_then (nz_light _) fun _ => nz_then (nz_lift _) fun _ => nz_then (nz_scale _ _) fun _ => nz_then (nz_addV _ _) fun _ => nz_ok _
theorem nz_contact (a b : Bd) (h : Ht) : NZ (contactX a b h) := nz_then (nz_bothK _ _) fun _ => by
  split
  · exact nz_ok _
  · exact nz_then (nz_speedK _ _ _) fun _ => nz_then (nz_bounce _ _ _ _ _) fun _ => nz_parts _ _ _ _
theorem nz_joint (a b : Bd) (l : Int) : NZ (jointX a b l) := nz_then (nz_subV _ _) fun _ => nz_then (nz_unit _) fun _ => by
  split
  · exact nz_ok _
  · exact nz_then (nz_bothK _ _) fun _ => by
      split
      · exact nz_ok _
      · exact nz_then (nz_speedK _ _ _) fun _ => nz_then (nz_lift _) fun _ => nz_then (nz_lift _) fun _ => nz_then (nz_lift _) fun _ => nz_then (nz_lift _) fun _ => nz_then (nz_lift _) fun _ => nz_then (nz_scale _ _) fun _ => nz_apply _ _ _
theorem relHb_ok {pb : Nat} {P : X (Ht × Bool)} {q : Ht} {t : Bool} (hP : P = .ok (q, t)) {w : World} {en : Ending} {w' : World} (h : RelHb pb 0 P w en w') : (en = .returned (.tuple #[.agg #[.int .i64 q.nx, .int .i64 q.ny, .int .i64 q.d], .bool t]) ∧ q.ok) ∧ RW pb 0 w w' := by
  obtain ⟨u, v, e', rfl, k, hr, hb⟩ := h
  subst hP
  rcases hr with ⟨h0, _⟩ | ⟨_, rfl, h1⟩ | ⟨_, _, h1⟩
  · exact absurd rfl h0
  · obtain ⟨rfl, rfl⟩ := Prod.mk.inj (Except.ok.inj h1); exact ⟨⟨rfl, k⟩, hb⟩
  · cases h1
theorem relHb_err {pb : Nat} {P : X (Ht × Bool)} {n : Int} (hP : P = .error n) {w : World} {en : Ending} {w' : World} (h : RelHb pb 0 P w en w') : (∃ (u : Ht) (t : Bool), en = .returned (.tuple #[.agg #[.int .i64 u.nx, .int .i64 u.ny, .int .i64 u.d], .bool t]) ∧ u.ok) ∧ RW pb n w w' := by
  obtain ⟨u, v, e', rfl, k, hr, hb⟩ := h
  subst hP
  rcases hr with ⟨h0, _⟩ | ⟨_, _, h1⟩ | ⟨_, _, h1⟩
  · exact absurd rfl h0
  · cases h1
  · obtain rfl := Except.error.inj h1; exact ⟨⟨u, v, rfl, k⟩, hb⟩
theorem relHt_ok {pb : Nat} {P : X Ht} {q : Ht} (hP : P = .ok q) {w : World} {en : Ending} {w' : World} (h : RelHt pb 0 P w en w') : en = .returned (.agg #[.int .i64 q.nx, .int .i64 q.ny, .int .i64 q.d]) ∧ RW pb 0 w w' := by
  obtain ⟨u, e', rfl, _, hr, hb⟩ := h
  subst hP
  rcases hr with ⟨h0, _⟩ | ⟨_, rfl, h1⟩ | ⟨_, _, h1⟩
  · exact absurd rfl h0
  · obtain rfl := Except.ok.inj h1; exact ⟨rfl, hb⟩
  · cases h1
theorem relHt_err {pb : Nat} {P : X Ht} {n : Int} (hP : P = .error n) {w : World} {en : Ending} {w' : World} (h : RelHt pb 0 P w en w') : (∃ u : Ht, en = .returned (.agg #[.int .i64 u.nx, .int .i64 u.ny, .int .i64 u.d])) ∧ RW pb n w w' := by
  obtain ⟨u, e', rfl, k, hr, hb⟩ := h
  subst hP
  rcases hr with ⟨h0, _⟩ | ⟨_, _, h1⟩ | ⟨_, _, h1⟩
  · exact absurd rfl h0
  · cases h1
  · obtain rfl := Except.error.inj h1; exact ⟨⟨u, rfl⟩, hb⟩
theorem relVI_ok {pb : Nat} {P : X (V × Int)} {x y l : Int} (hP : P = .ok ((x, y), l)) {w : World} {en : Ending} {w' : World} (h : RelVI pb 0 P w en w') : en = .returned (.tuple #[.agg #[.int .i64 x, .int .i64 y], .int .i64 l]) ∧ RW pb 0 w w' := by
  obtain ⟨u, v, m, e', rfl, _, _, _, hr, hb⟩ := h
  subst hP
  rcases hr with ⟨h0, _⟩ | ⟨_, rfl, h1⟩ | ⟨_, _, h1⟩
  · exact absurd rfl h0
  · obtain ⟨e1, rfl⟩ := Prod.mk.inj (Except.ok.inj h1); obtain ⟨rfl, rfl⟩ := Prod.mk.inj e1; exact ⟨rfl, hb⟩
  · cases h1
theorem relVI_err {pb : Nat} {P : X (V × Int)} {n : Int} (hP : P = .error n) {w : World} {en : Ending} {w' : World} (h : RelVI pb 0 P w en w') : (∃ u v l, en = .returned (.tuple #[.agg #[.int .i64 u, .int .i64 v], .int .i64 l])) ∧ RW pb n w w' := by
  obtain ⟨u, v, m, e', rfl, _, _, _, hr, hb⟩ := h
  subst hP
  rcases hr with ⟨h0, _⟩ | ⟨_, _, h1⟩ | ⟨_, _, h1⟩
  · exact absurd rfl h0
  · cases h1
  · obtain rfl := Except.error.inj h1; exact ⟨⟨u, v, m, rfl⟩, hb⟩
theorem relBB_ok {pb : Nat} {P : X (Bd × Bd)} {u v : Bd} (hP : P = .ok (u, v)) {w : World} {en : Ending} {w' : World} (h : RelBB pb 0 P w en w') : en = .returned (.tuple #[.agg #[.int .i64 u.shape, .int .i64 u.sx, .int .i64 u.sy, .int .i64 u.mass, .int .i64 u.px, .int .i64 u.py, .int .i64 u.mx, .int .i64 u.my], .agg #[.int .i64 v.shape, .int .i64 v.sx, .int .i64 v.sy, .int .i64 v.mass, .int .i64 v.px, .int .i64 v.py, .int .i64 v.mx, .int .i64 v.my]]) ∧ RW pb 0 w w' := by
  obtain ⟨x, y, e', rfl, _, _, hr, hb⟩ := h
  subst hP
  rcases hr with ⟨h0, _⟩ | ⟨_, rfl, h1⟩ | ⟨_, _, h1⟩
  · exact absurd rfl h0
  · obtain ⟨rfl, rfl⟩ := Prod.mk.inj (Except.ok.inj h1); exact ⟨rfl, hb⟩
  · cases h1
theorem relBB_err {pb : Nat} {P : X (Bd × Bd)} {n : Int} (hP : P = .error n) {w : World} {en : Ending} {w' : World} (h : RelBB pb 0 P w en w') : (∃ u v : Bd, en = .returned (.tuple #[.agg #[.int .i64 u.shape, .int .i64 u.sx, .int .i64 u.sy, .int .i64 u.mass, .int .i64 u.px, .int .i64 u.py, .int .i64 u.mx, .int .i64 u.my], .agg #[.int .i64 v.shape, .int .i64 v.sx, .int .i64 v.sy, .int .i64 v.mass, .int .i64 v.px, .int .i64 v.py, .int .i64 v.mx, .int .i64 v.my]])) ∧ RW pb n w w' := by
  obtain ⟨x, y, e', rfl, _, _, hr, hb⟩ := h
  subst hP
  rcases hr with ⟨h0, _⟩ | ⟨_, _, h1⟩ | ⟨_, _, h1⟩
  · exact absurd rfl h0
  · cases h1
  · obtain rfl := Except.error.inj h1; exact ⟨⟨x, y, rfl⟩, hb⟩
end M
end Go.Proofs.Ytcaibieaobhheaa
