/- A contact, as the reference reckons it. -/
import Derived.Test.YtcaibieaobhheaaRefPush1
namespace Go.Proofs.Ytcaibieaobhheaa
open Go.RowKit M
set_option maxRecDepth 100000
set_option maxHeartbeats 4000000
set_option linter.unusedVariables false
set_option linter.unusedSimpArgs false
attribute [local go_sem ↓] Go.wp_at_zero Go.wp_at_succ
namespace M
theorem rel_skip {α β : Type} {e e' : Int} {P : X α} {v : α} {f : α → X β} {u : β} (h : e = 0 → P = .ok v) (k : Rel e (f v) u e') : Rel e (andThen P f) u e' := by
  by_cases h0 : e = 0
  · rw [h h0]; exact k
  · rcases k with ⟨_, k⟩ | ⟨k, _⟩ | ⟨k, _⟩
    · exact .inl ⟨h0, k⟩
    · exact absurd k h0
    · exact absurd k h0
theorem light_mass {a c : Bd} (h : c.mass = a.mass) : lightX c = lightX a := by unfold lightX; rw [h]
theorem pushed_mass {a b u v : Bd} {j : V} (p : Pushed a b u v j) : u.mass = a.mass ∧ v.mass = b.mass := by
  constructor
  · rw [p.eu]
  · rw [p.ev]
theorem part2 (a : Int) : partX a 2 = .ok (a.tdiv 2) := by unfold partX; rw [if_neg (by omega), if_neg (by omega)]
/-- What is left of a contact behind the bounce: the lightnesses are those of before. -/
theorem rel_parts {c1 c2 : Bd} {h : Ht} {k la lb : Int} {r : Bd × Bd} {e e' : Int} (hl : e = 0 → lightX c1 = .ok la ∧ lightX c2 = .ok lb)
    (hr : Rel e (andThen (divX (h.d.tdiv 2) k) fun c => andThen (mulX c la) fun x => andThen (scaleV (h.nx, h.ny) x) fun g => andThen (subV c1.pos g) fun p =>
      andThen (mulX c lb) fun y => andThen (scaleV (h.nx, h.ny) y) fun f => andThen (addV c2.pos f) fun q => .ok ({ c1 with px := p.1, py := p.2 }, { c2 with px := q.1, py := q.2 })) r e') :
    Rel e (partsX c1 c2 h k) r e' := by
  by_cases h0 : e = 0
  · obtain ⟨h1, h2⟩ := hl h0
    have : partsX c1 c2 h k = (andThen (divX (h.d.tdiv 2) k) fun c => andThen (mulX c la) fun x => andThen (scaleV (h.nx, h.ny) x) fun g => andThen (subV c1.pos g) fun p =>
      andThen (mulX c lb) fun y => andThen (scaleV (h.nx, h.ny) y) fun f => andThen (addV c2.pos f) fun q => .ok ({ c1 with px := p.1, py := p.2 }, { c2 with px := q.1, py := q.2 })) := by
      unfold partsX; simp only [h1, h2, andThen_ok]
    rw [this]; exact hr
  · rcases hr with ⟨_, k⟩ | ⟨k, _⟩ | ⟨k, _⟩
    · exact .inl ⟨h0, k⟩
    · exact absurd k h0
    · exact absurd k h0
end M
theorem refContact_x (pb : Nat) (e : Int) (a b : Bd) (h : Ht) (ha : a.ok) (hb : b.ok) (hh : h.ok) (w : World) (hp : PCell w pb e) :
    Calls Try.prog 34 #[.pointer (some ⟨pb, 0, none⟩), .agg #[.int .i64 a.shape, .int .i64 a.sx, .int .i64 a.sy, .int .i64 a.mass, .int .i64 a.px, .int .i64 a.py, .int .i64 a.mx, .int .i64 a.my], .agg #[.int .i64 b.shape, .int .i64 b.sx, .int .i64 b.sy, .int .i64 b.mass, .int .i64 b.px, .int .i64 b.py, .int .i64 b.mx, .int .i64 b.my], .agg #[.int .i64 h.nx, .int .i64 h.ny, .int .i64 h.d]] w (RelBB pb e (contactX a b h) w) := by
  have C3 := Lib.hid (fun e => refLight_x pb e a ha)
  have C4 := Lib.hid (fun e => refLight_x pb e b hb)
  have C5 := Lib.hid (refAdd_x pb)
  have C6 := Lib.hid (fun e => refSpeed_x pb e b hb)
  have C7 := Lib.hid (fun e => refSpeed_x pb e a ha)
  have C8 := Lib.hid (refLess_x pb)
  have C9 := Lib.hid (refDot_x pb)
  have CA := Lib.hid (refSub_x pb)
  have CB := Lib.hid (refMul_x pb)
  have CC := Lib.hid (refDiv_x pb)
  have CD := Lib.hid (refTimes_x pb)
  have CE := Lib.hid (fun e gx gy h1 h2 => refApply_x pb e a b gx gy ha hb h1 h2)
  have CP := Lib.hid (refPart_x pb)
  have CQ := Lib.hid (refPlus_x pb)
  have z : I64 0 := by unfold I64; omega
  have z2 : I64 2 := by unfold I64; omega
  have HA := Lib.hid ha; have HB := Lib.hid hb; have HH := Lib.hid hh
  have hpb : pb < w.heap.size := hp.1; have c0_pb := hp.2.1; have f0_pb := hp.2.2; have PC0 := hp
  have HG0 := Lib.hid (M.rw_refl hp)
  go_enter Try.func34, Try.ntmps34
  go_wp2_with (with_reducible refine M.stopPost ?_)
  (with_reducible refine (C3.out e _ (by (repeat (first | (with_reducible assumption) | (with_reducible refine M.pcell_alloc ?_ _) | (with_reducible refine M.pcell_drewN ?_ _) | (with_reducible refine M.pcell_drew ?_) | (with_reducible refine M.pcell_far ?_ _ _ ?hFar; case hFar => (first | omega | ((try simp [go_sem]) <;> omega))) | fail)))).mono ?_); rintro en w1 ⟨la, e1, rfl, ila, hr, hb⟩
  have G1 : M.RW pb e1 w w1 := M.rw_step (by have G := HG0.out; (repeat (with_reducible refine M.Below.drewN ?_ _)); go_grown) hb hpb
  have S1 : w.heap.size ≤ w1.heap.size := by have := G1.size; rwa [M.setCell_size] at this
  have PC1 : M.PCell w1 pb e1 := M.pcell_behind hb (e := e) (by (repeat (first | (with_reducible assumption) | (with_reducible refine M.pcell_alloc ?_ _) | (with_reducible refine M.pcell_drewN ?_ _) | (with_reducible refine M.pcell_drew ?_) | (with_reducible refine M.pcell_far ?_ _ _ ?hFar; case hFar => (first | omega | ((try simp [go_sem]) <;> omega))) | fail)))
  have V1_a : M.Var w1 (w.heap.size) #[.int .i64 a.shape, .int .i64 a.sx, .int .i64 a.sy, .int .i64 a.mass, .int .i64 a.px, .int .i64 a.py, .int .i64 a.mx, .int .i64 a.my] := M.var_rw (by (repeat (first | (with_reducible assumption) | (with_reducible apply M.var_set45) | (with_reducible apply M.var_setBd) | (with_reducible apply M.var_setV) | (with_reducible refine M.var_alloc' _ _ _ ?_; first | rfl | (focus (simp [go_sem]; done))) | (with_reducible refine M.Var.alloc ?_ _) | (with_reducible refine M.Var.drewN ?_ _) | (with_reducible refine M.Var.drew ?_) | (with_reducible refine M.Var.far ?_ _ _ ?hFar; case hFar => (first | omega | ((try simp [go_sem]) <;> omega))) | fail))) (by omega) hb
  have q1_a_0 : w1.cell? ⟨w.heap.size, 0, none⟩ = some (.int .i64 a.shape) := V1_a.c 0 _ rfl
  have q1_a_1 : w1.cell? ⟨w.heap.size, 1, none⟩ = some (.int .i64 a.sx) := V1_a.c 1 _ rfl
  have q1_a_2 : w1.cell? ⟨w.heap.size, 2, none⟩ = some (.int .i64 a.sy) := V1_a.c 2 _ rfl
  have q1_a_3 : w1.cell? ⟨w.heap.size, 3, none⟩ = some (.int .i64 a.mass) := V1_a.c 3 _ rfl
  have q1_a_4 : w1.cell? ⟨w.heap.size, 4, none⟩ = some (.int .i64 a.px) := V1_a.c 4 _ rfl
  have q1_a_5 : w1.cell? ⟨w.heap.size, 5, none⟩ = some (.int .i64 a.py) := V1_a.c 5 _ rfl
  have q1_a_6 : w1.cell? ⟨w.heap.size, 6, none⟩ = some (.int .i64 a.mx) := V1_a.c 6 _ rfl
  have q1_a_7 : w1.cell? ⟨w.heap.size, 7, none⟩ = some (.int .i64 a.my) := V1_a.c 7 _ rfl
  have f1_a := V1_a.2.2
  have L1_a := V1_a.lt
  have N1_a := Nat.ne_of_gt L1_a
  have M1_a := Nat.ne_of_lt L1_a
  have V1_b : M.Var w1 (w.heap.size + 1) #[.int .i64 b.shape, .int .i64 b.sx, .int .i64 b.sy, .int .i64 b.mass, .int .i64 b.px, .int .i64 b.py, .int .i64 b.mx, .int .i64 b.my] := M.var_rw (by (repeat (first | (with_reducible assumption) | (with_reducible apply M.var_set45) | (with_reducible apply M.var_setBd) | (with_reducible apply M.var_setV) | (with_reducible refine M.var_alloc' _ _ _ ?_; first | rfl | (focus (simp [go_sem]; done))) | (with_reducible refine M.Var.alloc ?_ _) | (with_reducible refine M.Var.drewN ?_ _) | (with_reducible refine M.Var.drew ?_) | (with_reducible refine M.Var.far ?_ _ _ ?hFar; case hFar => (first | omega | ((try simp [go_sem]) <;> omega))) | fail))) (by omega) hb
  have q1_b_0 : w1.cell? ⟨w.heap.size + 1, 0, none⟩ = some (.int .i64 b.shape) := V1_b.c 0 _ rfl
  have q1_b_1 : w1.cell? ⟨w.heap.size + 1, 1, none⟩ = some (.int .i64 b.sx) := V1_b.c 1 _ rfl
  have q1_b_2 : w1.cell? ⟨w.heap.size + 1, 2, none⟩ = some (.int .i64 b.sy) := V1_b.c 2 _ rfl
  have q1_b_3 : w1.cell? ⟨w.heap.size + 1, 3, none⟩ = some (.int .i64 b.mass) := V1_b.c 3 _ rfl
  have q1_b_4 : w1.cell? ⟨w.heap.size + 1, 4, none⟩ = some (.int .i64 b.px) := V1_b.c 4 _ rfl
  have q1_b_5 : w1.cell? ⟨w.heap.size + 1, 5, none⟩ = some (.int .i64 b.py) := V1_b.c 5 _ rfl
  have q1_b_6 : w1.cell? ⟨w.heap.size + 1, 6, none⟩ = some (.int .i64 b.mx) := V1_b.c 6 _ rfl
  have q1_b_7 : w1.cell? ⟨w.heap.size + 1, 7, none⟩ = some (.int .i64 b.my) := V1_b.c 7 _ rfl
  have f1_b := V1_b.2.2
  have L1_b := V1_b.lt
  have N1_b := Nat.ne_of_gt L1_b
  have M1_b := Nat.ne_of_lt L1_b
  have V1_h : M.Var w1 (w.heap.size + 1 + 1) #[.int .i64 h.nx, .int .i64 h.ny, .int .i64 h.d] := M.var_rw (by (repeat (first | (with_reducible assumption) | (with_reducible apply M.var_set45) | (with_reducible apply M.var_setBd) | (with_reducible apply M.var_setV) | (with_reducible refine M.var_alloc' _ _ _ ?_; first | rfl | (focus (simp [go_sem]; done))) | (with_reducible refine M.Var.alloc ?_ _) | (with_reducible refine M.Var.drewN ?_ _) | (with_reducible refine M.Var.drew ?_) | (with_reducible refine M.Var.far ?_ _ _ ?hFar; case hFar => (first | omega | ((try simp [go_sem]) <;> omega))) | fail))) (by omega) hb
  have q1_h_0 : w1.cell? ⟨w.heap.size + 1 + 1, 0, none⟩ = some (.int .i64 h.nx) := V1_h.c 0 _ rfl
  have q1_h_1 : w1.cell? ⟨w.heap.size + 1 + 1, 1, none⟩ = some (.int .i64 h.ny) := V1_h.c 1 _ rfl
  have q1_h_2 : w1.cell? ⟨w.heap.size + 1 + 1, 2, none⟩ = some (.int .i64 h.d) := V1_h.c 2 _ rfl
  have f1_h := V1_h.2.2
  have L1_h := V1_h.lt
  have N1_h := Nat.ne_of_gt L1_h
  have M1_h := Nat.ne_of_lt L1_h
  have V1_r : M.Var w1 (w.heap.size + 1 + 1 + 1) #[.int .i64 0, .int .i64 0, .int .i64 0, .int .i64 0, .int .i64 0, .int .i64 0, .int .i64 0, .int .i64 0] := M.var_rw (by (repeat (first | (with_reducible assumption) | (with_reducible apply M.var_set45) | (with_reducible apply M.var_setBd) | (with_reducible apply M.var_setV) | (with_reducible refine M.var_alloc' _ _ _ ?_; first | rfl | (focus (simp [go_sem]; done))) | (with_reducible refine M.Var.alloc ?_ _) | (with_reducible refine M.Var.drewN ?_ _) | (with_reducible refine M.Var.drew ?_) | (with_reducible refine M.Var.far ?_ _ _ ?hFar; case hFar => (first | omega | ((try simp [go_sem]) <;> omega))) | fail))) (by omega) hb
  have q1_r_0 : w1.cell? ⟨w.heap.size + 1 + 1 + 1, 0, none⟩ = some (.int .i64 0) := V1_r.c 0 _ rfl
  have q1_r_1 : w1.cell? ⟨w.heap.size + 1 + 1 + 1, 1, none⟩ = some (.int .i64 0) := V1_r.c 1 _ rfl
  have q1_r_2 : w1.cell? ⟨w.heap.size + 1 + 1 + 1, 2, none⟩ = some (.int .i64 0) := V1_r.c 2 _ rfl
  have q1_r_3 : w1.cell? ⟨w.heap.size + 1 + 1 + 1, 3, none⟩ = some (.int .i64 0) := V1_r.c 3 _ rfl
  have q1_r_4 : w1.cell? ⟨w.heap.size + 1 + 1 + 1, 4, none⟩ = some (.int .i64 0) := V1_r.c 4 _ rfl
  have q1_r_5 : w1.cell? ⟨w.heap.size + 1 + 1 + 1, 5, none⟩ = some (.int .i64 0) := V1_r.c 5 _ rfl
  have q1_r_6 : w1.cell? ⟨w.heap.size + 1 + 1 + 1, 6, none⟩ = some (.int .i64 0) := V1_r.c 6 _ rfl
  have q1_r_7 : w1.cell? ⟨w.heap.size + 1 + 1 + 1, 7, none⟩ = some (.int .i64 0) := V1_r.c 7 _ rfl
  have f1_r := V1_r.2.2
  have L1_r := V1_r.lt
  have N1_r := Nat.ne_of_gt L1_r
  have M1_r := Nat.ne_of_lt L1_r
  have V1_s : M.Var w1 (w.heap.size + 1 + 1 + 1 + 1) #[.int .i64 0, .int .i64 0, .int .i64 0, .int .i64 0, .int .i64 0, .int .i64 0, .int .i64 0, .int .i64 0] := M.var_rw (by (repeat (first | (with_reducible assumption) | (with_reducible apply M.var_set45) | (with_reducible apply M.var_setBd) | (with_reducible apply M.var_setV) | (with_reducible refine M.var_alloc' _ _ _ ?_; first | rfl | (focus (simp [go_sem]; done))) | (with_reducible refine M.Var.alloc ?_ _) | (with_reducible refine M.Var.drewN ?_ _) | (with_reducible refine M.Var.drew ?_) | (with_reducible refine M.Var.far ?_ _ _ ?hFar; case hFar => (first | omega | ((try simp [go_sem]) <;> omega))) | fail))) (by omega) hb
  have q1_s_0 : w1.cell? ⟨w.heap.size + 1 + 1 + 1 + 1, 0, none⟩ = some (.int .i64 0) := V1_s.c 0 _ rfl
  have q1_s_1 : w1.cell? ⟨w.heap.size + 1 + 1 + 1 + 1, 1, none⟩ = some (.int .i64 0) := V1_s.c 1 _ rfl
  have q1_s_2 : w1.cell? ⟨w.heap.size + 1 + 1 + 1 + 1, 2, none⟩ = some (.int .i64 0) := V1_s.c 2 _ rfl
  have q1_s_3 : w1.cell? ⟨w.heap.size + 1 + 1 + 1 + 1, 3, none⟩ = some (.int .i64 0) := V1_s.c 3 _ rfl
  have q1_s_4 : w1.cell? ⟨w.heap.size + 1 + 1 + 1 + 1, 4, none⟩ = some (.int .i64 0) := V1_s.c 4 _ rfl
  have q1_s_5 : w1.cell? ⟨w.heap.size + 1 + 1 + 1 + 1, 5, none⟩ = some (.int .i64 0) := V1_s.c 5 _ rfl
  have q1_s_6 : w1.cell? ⟨w.heap.size + 1 + 1 + 1 + 1, 6, none⟩ = some (.int .i64 0) := V1_s.c 6 _ rfl
  have q1_s_7 : w1.cell? ⟨w.heap.size + 1 + 1 + 1 + 1, 7, none⟩ = some (.int .i64 0) := V1_s.c 7 _ rfl
  have f1_s := V1_s.2.2
  have L1_s := V1_s.lt
  have N1_s := Nat.ne_of_gt L1_s
  have M1_s := Nat.ne_of_lt L1_s
  have HR1 := Lib.hid hr; clear hr
  have c1_pb := PC1.2.1; have f1_pb := PC1.2.2; have L1_pb := PC1.1; have N1_pb := Nat.ne_of_gt L1_pb; have M1_pb := Nat.ne_of_lt L1_pb
  have HG1 := Lib.hid G1; clear G1 hb
  go_wp2_with (with_reducible refine M.stopPost ?_)
  (with_reducible refine (C4.out e1 _ (by (repeat (first | (with_reducible assumption) | (with_reducible refine M.pcell_alloc ?_ _) | (with_reducible refine M.pcell_drewN ?_ _) | (with_reducible refine M.pcell_drew ?_) | (with_reducible refine M.pcell_far ?_ _ _ ?hFar; case hFar => (first | omega | ((try simp [go_sem]) <;> omega))) | fail)))).mono ?_); rintro en w2 ⟨lb, e2, rfl, ilb, hr, hb⟩
  have G2 : M.RW pb e2 w w2 := M.rw_step (by have G := HG1.out; (repeat (with_reducible refine M.Below.drewN ?_ _)); go_grown) hb hpb
  have S2 : w.heap.size ≤ w2.heap.size := by have := G2.size; rwa [M.setCell_size] at this
  have PC2 : M.PCell w2 pb e2 := M.pcell_behind hb (e := e1) (by (repeat (first | (with_reducible assumption) | (with_reducible refine M.pcell_alloc ?_ _) | (with_reducible refine M.pcell_drewN ?_ _) | (with_reducible refine M.pcell_drew ?_) | (with_reducible refine M.pcell_far ?_ _ _ ?hFar; case hFar => (first | omega | ((try simp [go_sem]) <;> omega))) | fail)))
  have V2_a : M.Var w2 (w.heap.size) #[.int .i64 a.shape, .int .i64 a.sx, .int .i64 a.sy, .int .i64 a.mass, .int .i64 a.px, .int .i64 a.py, .int .i64 a.mx, .int .i64 a.my] := M.var_rw (by (repeat (first | (with_reducible assumption) | (with_reducible apply M.var_set45) | (with_reducible apply M.var_setBd) | (with_reducible apply M.var_setV) | (with_reducible refine M.var_alloc' _ _ _ ?_; first | rfl | (focus (simp [go_sem]; done))) | (with_reducible refine M.Var.alloc ?_ _) | (with_reducible refine M.Var.drewN ?_ _) | (with_reducible refine M.Var.drew ?_) | (with_reducible refine M.Var.far ?_ _ _ ?hFar; case hFar => (first | omega | ((try simp [go_sem]) <;> omega))) | fail))) (by omega) hb
  have q2_a_0 : w2.cell? ⟨w.heap.size, 0, none⟩ = some (.int .i64 a.shape) := V2_a.c 0 _ rfl
  have q2_a_1 : w2.cell? ⟨w.heap.size, 1, none⟩ = some (.int .i64 a.sx) := V2_a.c 1 _ rfl
  have q2_a_2 : w2.cell? ⟨w.heap.size, 2, none⟩ = some (.int .i64 a.sy) := V2_a.c 2 _ rfl
  have q2_a_3 : w2.cell? ⟨w.heap.size, 3, none⟩ = some (.int .i64 a.mass) := V2_a.c 3 _ rfl
  have q2_a_4 : w2.cell? ⟨w.heap.size, 4, none⟩ = some (.int .i64 a.px) := V2_a.c 4 _ rfl
  have q2_a_5 : w2.cell? ⟨w.heap.size, 5, none⟩ = some (.int .i64 a.py) := V2_a.c 5 _ rfl
  have q2_a_6 : w2.cell? ⟨w.heap.size, 6, none⟩ = some (.int .i64 a.mx) := V2_a.c 6 _ rfl
  have q2_a_7 : w2.cell? ⟨w.heap.size, 7, none⟩ = some (.int .i64 a.my) := V2_a.c 7 _ rfl
  have f2_a := V2_a.2.2
  have L2_a := V2_a.lt
  have N2_a := Nat.ne_of_gt L2_a
  have M2_a := Nat.ne_of_lt L2_a
  have V2_b : M.Var w2 (w.heap.size + 1) #[.int .i64 b.shape, .int .i64 b.sx, .int .i64 b.sy, .int .i64 b.mass, .int .i64 b.px, .int .i64 b.py, .int .i64 b.mx, .int .i64 b.my] := M.var_rw (by (repeat (first | (with_reducible assumption) | (with_reducible apply M.var_set45) | (with_reducible apply M.var_setBd) | (with_reducible apply M.var_setV) | (with_reducible refine M.var_alloc' _ _ _ ?_; first | rfl | (focus (simp [go_sem]; done))) | (with_reducible refine M.Var.alloc ?_ _) | (with_reducible refine M.Var.drewN ?_ _) | (with_reducible refine M.Var.drew ?_) | (with_reducible refine M.Var.far ?_ _ _ ?hFar; case hFar => (first | omega | ((try simp [go_sem]) <;> omega))) | fail))) (by omega) hb
  have q2_b_0 : w2.cell? ⟨w.heap.size + 1, 0, none⟩ = some (.int .i64 b.shape) := V2_b.c 0 _ rfl
  have q2_b_1 : w2.cell? ⟨w.heap.size + 1, 1, none⟩ = some (.int .i64 b.sx) := V2_b.c 1 _ rfl
  have q2_b_2 : w2.cell? ⟨w.heap.size + 1, 2, none⟩ = some (.int .i64 b.sy) := V2_b.c 2 _ rfl
  have q2_b_3 : w2.cell? ⟨w.heap.size + 1, 3, none⟩ = some (.int .i64 b.mass) := V2_b.c 3 _ rfl
  have q2_b_4 : w2.cell? ⟨w.heap.size + 1, 4, none⟩ = some (.int .i64 b.px) := V2_b.c 4 _ rfl
  have q2_b_5 : w2.cell? ⟨w.heap.size + 1, 5, none⟩ = some (.int .i64 b.py) := V2_b.c 5 _ rfl
  have q2_b_6 : w2.cell? ⟨w.heap.size + 1, 6, none⟩ = some (.int .i64 b.mx) := V2_b.c 6 _ rfl
  have q2_b_7 : w2.cell? ⟨w.heap.size + 1, 7, none⟩ = some (.int .i64 b.my) := V2_b.c 7 _ rfl
  have f2_b := V2_b.2.2
  have L2_b := V2_b.lt
  have N2_b := Nat.ne_of_gt L2_b
  have M2_b := Nat.ne_of_lt L2_b
  have V2_h : M.Var w2 (w.heap.size + 1 + 1) #[.int .i64 h.nx, .int .i64 h.ny, .int .i64 h.d] := M.var_rw (by (repeat (first | (with_reducible assumption) | (with_reducible apply M.var_set45) | (with_reducible apply M.var_setBd) | (with_reducible apply M.var_setV) | (with_reducible refine M.var_alloc' _ _ _ ?_; first | rfl | (focus (simp [go_sem]; done))) | (with_reducible refine M.Var.alloc ?_ _) | (with_reducible refine M.Var.drewN ?_ _) | (with_reducible refine M.Var.drew ?_) | (with_reducible refine M.Var.far ?_ _ _ ?hFar; case hFar => (first | omega | ((try simp [go_sem]) <;> omega))) | fail))) (by omega) hb
  have q2_h_0 : w2.cell? ⟨w.heap.size + 1 + 1, 0, none⟩ = some (.int .i64 h.nx) := V2_h.c 0 _ rfl
  have q2_h_1 : w2.cell? ⟨w.heap.size + 1 + 1, 1, none⟩ = some (.int .i64 h.ny) := V2_h.c 1 _ rfl
  have q2_h_2 : w2.cell? ⟨w.heap.size + 1 + 1, 2, none⟩ = some (.int .i64 h.d) := V2_h.c 2 _ rfl
  have f2_h := V2_h.2.2
  have L2_h := V2_h.lt
  have N2_h := Nat.ne_of_gt L2_h
  have M2_h := Nat.ne_of_lt L2_h
  have V2_r : M.Var w2 (w.heap.size + 1 + 1 + 1) #[.int .i64 0, .int .i64 0, .int .i64 0, .int .i64 0, .int .i64 0, .int .i64 0, .int .i64 0, .int .i64 0] := M.var_rw (by (repeat (first | (with_reducible assumption) | (with_reducible apply M.var_set45) | (with_reducible apply M.var_setBd) | (with_reducible apply M.var_setV) | (with_reducible refine M.var_alloc' _ _ _ ?_; first | rfl | (focus (simp [go_sem]; done))) | (with_reducible refine M.Var.alloc ?_ _) | (with_reducible refine M.Var.drewN ?_ _) | (with_reducible refine M.Var.drew ?_) | (with_reducible refine M.Var.far ?_ _ _ ?hFar; case hFar => (first | omega | ((try simp [go_sem]) <;> omega))) | fail))) (by omega) hb
  have q2_r_0 : w2.cell? ⟨w.heap.size + 1 + 1 + 1, 0, none⟩ = some (.int .i64 0) := V2_r.c 0 _ rfl
  have q2_r_1 : w2.cell? ⟨w.heap.size + 1 + 1 + 1, 1, none⟩ = some (.int .i64 0) := V2_r.c 1 _ rfl
  have q2_r_2 : w2.cell? ⟨w.heap.size + 1 + 1 + 1, 2, none⟩ = some (.int .i64 0) := V2_r.c 2 _ rfl
  have q2_r_3 : w2.cell? ⟨w.heap.size + 1 + 1 + 1, 3, none⟩ = some (.int .i64 0) := V2_r.c 3 _ rfl
  have q2_r_4 : w2.cell? ⟨w.heap.size + 1 + 1 + 1, 4, none⟩ = some (.int .i64 0) := V2_r.c 4 _ rfl
  have q2_r_5 : w2.cell? ⟨w.heap.size + 1 + 1 + 1, 5, none⟩ = some (.int .i64 0) := V2_r.c 5 _ rfl
  have q2_r_6 : w2.cell? ⟨w.heap.size + 1 + 1 + 1, 6, none⟩ = some (.int .i64 0) := V2_r.c 6 _ rfl
  have q2_r_7 : w2.cell? ⟨w.heap.size + 1 + 1 + 1, 7, none⟩ = some (.int .i64 0) := V2_r.c 7 _ rfl
  have f2_r := V2_r.2.2
  have L2_r := V2_r.lt
  have N2_r := Nat.ne_of_gt L2_r
  have M2_r := Nat.ne_of_lt L2_r
  have V2_s : M.Var w2 (w.heap.size + 1 + 1 + 1 + 1) #[.int .i64 0, .int .i64 0, .int .i64 0, .int .i64 0, .int .i64 0, .int .i64 0, .int .i64 0, .int .i64 0] := M.var_rw (by (repeat (first | (with_reducible assumption) | (with_reducible apply M.var_set45) | (with_reducible apply M.var_setBd) | (with_reducible apply M.var_setV) | (with_reducible refine M.var_alloc' _ _ _ ?_; first | rfl | (focus (simp [go_sem]; done))) | (with_reducible refine M.Var.alloc ?_ _) | (with_reducible refine M.Var.drewN ?_ _) | (with_reducible refine M.Var.drew ?_) | (with_reducible refine M.Var.far ?_ _ _ ?hFar; case hFar => (first | omega | ((try simp [go_sem]) <;> omega))) | fail))) (by omega) hb
  have q2_s_0 : w2.cell? ⟨w.heap.size + 1 + 1 + 1 + 1, 0, none⟩ = some (.int .i64 0) := V2_s.c 0 _ rfl
  have q2_s_1 : w2.cell? ⟨w.heap.size + 1 + 1 + 1 + 1, 1, none⟩ = some (.int .i64 0) := V2_s.c 1 _ rfl
  have q2_s_2 : w2.cell? ⟨w.heap.size + 1 + 1 + 1 + 1, 2, none⟩ = some (.int .i64 0) := V2_s.c 2 _ rfl
  have q2_s_3 : w2.cell? ⟨w.heap.size + 1 + 1 + 1 + 1, 3, none⟩ = some (.int .i64 0) := V2_s.c 3 _ rfl
  have q2_s_4 : w2.cell? ⟨w.heap.size + 1 + 1 + 1 + 1, 4, none⟩ = some (.int .i64 0) := V2_s.c 4 _ rfl
  have q2_s_5 : w2.cell? ⟨w.heap.size + 1 + 1 + 1 + 1, 5, none⟩ = some (.int .i64 0) := V2_s.c 5 _ rfl
  have q2_s_6 : w2.cell? ⟨w.heap.size + 1 + 1 + 1 + 1, 6, none⟩ = some (.int .i64 0) := V2_s.c 6 _ rfl
  have q2_s_7 : w2.cell? ⟨w.heap.size + 1 + 1 + 1 + 1, 7, none⟩ = some (.int .i64 0) := V2_s.c 7 _ rfl
  have f2_s := V2_s.2.2
  have L2_s := V2_s.lt
  have N2_s := Nat.ne_of_gt L2_s
  have M2_s := Nat.ne_of_lt L2_s
  clear V1_a f1_a L1_a N1_a M1_a q1_a_0 q1_a_1 q1_a_2 q1_a_3 q1_a_4 q1_a_5 q1_a_6 q1_a_7 V1_b f1_b L1_b N1_b M1_b q1_b_0 q1_b_1 q1_b_2 q1_b_3 q1_b_4 q1_b_5 q1_b_6 q1_b_7 V1_h f1_h L1_h N1_h M1_h q1_h_0 q1_h_1 q1_h_2 V1_r f1_r L1_r N1_r M1_r q1_r_0 q1_r_1 q1_r_2 q1_r_3 q1_r_4 q1_r_5 q1_r_6 q1_r_7 V1_s f1_s L1_s N1_s M1_s q1_s_0 q1_s_1 q1_s_2 q1_s_3 q1_s_4 q1_s_5 q1_s_6 q1_s_7 PC1 c1_pb f1_pb L1_pb N1_pb M1_pb
  have HR2 := Lib.hid hr; clear hr
  have c2_pb := PC2.2.1; have f2_pb := PC2.2.2; have L2_pb := PC2.1; have N2_pb := Nat.ne_of_gt L2_pb; have M2_pb := Nat.ne_of_lt L2_pb
  have HG2 := Lib.hid G2; clear G2 hb
  go_wp2_with (with_reducible refine M.stopPost ?_)
  (with_reducible refine (C5.out e2 _ _ ila ilb _ (by (repeat (first | (with_reducible assumption) | (with_reducible refine M.pcell_alloc ?_ _) | (with_reducible refine M.pcell_drewN ?_ _) | (with_reducible refine M.pcell_drew ?_) | (with_reducible refine M.pcell_far ?_ _ _ ?hFar; case hFar => (first | omega | ((try simp [go_sem]) <;> omega))) | fail)))).mono ?_); rintro en w3 ⟨k, e3, rfl, ik, hr, hb⟩
  have G3 : M.RW pb e3 w w3 := M.rw_step (by have G := HG2.out; (repeat (with_reducible refine M.Below.drewN ?_ _)); go_grown) hb hpb
  have S3 : w.heap.size ≤ w3.heap.size := by have := G3.size; rwa [M.setCell_size] at this
  have PC3 : M.PCell w3 pb e3 := M.pcell_behind hb (e := e2) (by (repeat (first | (with_reducible assumption) | (with_reducible refine M.pcell_alloc ?_ _) | (with_reducible refine M.pcell_drewN ?_ _) | (with_reducible refine M.pcell_drew ?_) | (with_reducible refine M.pcell_far ?_ _ _ ?hFar; case hFar => (first | omega | ((try simp [go_sem]) <;> omega))) | fail)))
  have V3_a : M.Var w3 (w.heap.size) #[.int .i64 a.shape, .int .i64 a.sx, .int .i64 a.sy, .int .i64 a.mass, .int .i64 a.px, .int .i64 a.py, .int .i64 a.mx, .int .i64 a.my] := M.var_rw (by (repeat (first | (with_reducible assumption) | (with_reducible apply M.var_set45) | (with_reducible apply M.var_setBd) | (with_reducible apply M.var_setV) | (with_reducible refine M.var_alloc' _ _ _ ?_; first | rfl | (focus (simp [go_sem]; done))) | (with_reducible refine M.Var.alloc ?_ _) | (with_reducible refine M.Var.drewN ?_ _) | (with_reducible refine M.Var.drew ?_) | (with_reducible refine M.Var.far ?_ _ _ ?hFar; case hFar => (first | omega | ((try simp [go_sem]) <;> omega))) | fail))) (by omega) hb
  have q3_a_0 : w3.cell? ⟨w.heap.size, 0, none⟩ = some (.int .i64 a.shape) := V3_a.c 0 _ rfl
  have q3_a_1 : w3.cell? ⟨w.heap.size, 1, none⟩ = some (.int .i64 a.sx) := V3_a.c 1 _ rfl
  have q3_a_2 : w3.cell? ⟨w.heap.size, 2, none⟩ = some (.int .i64 a.sy) := V3_a.c 2 _ rfl
  have q3_a_3 : w3.cell? ⟨w.heap.size, 3, none⟩ = some (.int .i64 a.mass) := V3_a.c 3 _ rfl
  have q3_a_4 : w3.cell? ⟨w.heap.size, 4, none⟩ = some (.int .i64 a.px) := V3_a.c 4 _ rfl
  have q3_a_5 : w3.cell? ⟨w.heap.size, 5, none⟩ = some (.int .i64 a.py) := V3_a.c 5 _ rfl
  have q3_a_6 : w3.cell? ⟨w.heap.size, 6, none⟩ = some (.int .i64 a.mx) := V3_a.c 6 _ rfl
  have q3_a_7 : w3.cell? ⟨w.heap.size, 7, none⟩ = some (.int .i64 a.my) := V3_a.c 7 _ rfl
  have f3_a := V3_a.2.2
  have L3_a := V3_a.lt
  have N3_a := Nat.ne_of_gt L3_a
  have M3_a := Nat.ne_of_lt L3_a
  have V3_b : M.Var w3 (w.heap.size + 1) #[.int .i64 b.shape, .int .i64 b.sx, .int .i64 b.sy, .int .i64 b.mass, .int .i64 b.px, .int .i64 b.py, .int .i64 b.mx, .int .i64 b.my] := M.var_rw (by (repeat (first | (with_reducible assumption) | (with_reducible apply M.var_set45) | (with_reducible apply M.var_setBd) | (with_reducible apply M.var_setV) | (with_reducible refine M.var_alloc' _ _ _ ?_; first | rfl | (focus (simp [go_sem]; done))) | (with_reducible refine M.Var.alloc ?_ _) | (with_reducible refine M.Var.drewN ?_ _) | (with_reducible refine M.Var.drew ?_) | (with_reducible refine M.Var.far ?_ _ _ ?hFar; case hFar => (first | omega | ((try simp [go_sem]) <;> omega))) | fail))) (by omega) hb
  have q3_b_0 : w3.cell? ⟨w.heap.size + 1, 0, none⟩ = some (.int .i64 b.shape) := V3_b.c 0 _ rfl
  have q3_b_1 : w3.cell? ⟨w.heap.size + 1, 1, none⟩ = some (.int .i64 b.sx) := V3_b.c 1 _ rfl
  have q3_b_2 : w3.cell? ⟨w.heap.size + 1, 2, none⟩ = some (.int .i64 b.sy) := V3_b.c 2 _ rfl
  have q3_b_3 : w3.cell? ⟨w.heap.size + 1, 3, none⟩ = some (.int .i64 b.mass) := V3_b.c 3 _ rfl
  have q3_b_4 : w3.cell? ⟨w.heap.size + 1, 4, none⟩ = some (.int .i64 b.px) := V3_b.c 4 _ rfl
  have q3_b_5 : w3.cell? ⟨w.heap.size + 1, 5, none⟩ = some (.int .i64 b.py) := V3_b.c 5 _ rfl
  have q3_b_6 : w3.cell? ⟨w.heap.size + 1, 6, none⟩ = some (.int .i64 b.mx) := V3_b.c 6 _ rfl
  have q3_b_7 : w3.cell? ⟨w.heap.size + 1, 7, none⟩ = some (.int .i64 b.my) := V3_b.c 7 _ rfl
  have f3_b := V3_b.2.2
  have L3_b := V3_b.lt
  have N3_b := Nat.ne_of_gt L3_b
  have M3_b := Nat.ne_of_lt L3_b
  have V3_h : M.Var w3 (w.heap.size + 1 + 1) #[.int .i64 h.nx, .int .i64 h.ny, .int .i64 h.d] := M.var_rw (by (repeat (first | (with_reducible assumption) | (with_reducible apply M.var_set45) | (with_reducible apply M.var_setBd) | (with_reducible apply M.var_setV) | (with_reducible refine M.var_alloc' _ _ _ ?_; first | rfl | (focus (simp [go_sem]; done))) | (with_reducible refine M.Var.alloc ?_ _) | (with_reducible refine M.Var.drewN ?_ _) | (with_reducible refine M.Var.drew ?_) | (with_reducible refine M.Var.far ?_ _ _ ?hFar; case hFar => (first | omega | ((try simp [go_sem]) <;> omega))) | fail))) (by omega) hb
  have q3_h_0 : w3.cell? ⟨w.heap.size + 1 + 1, 0, none⟩ = some (.int .i64 h.nx) := V3_h.c 0 _ rfl
  have q3_h_1 : w3.cell? ⟨w.heap.size + 1 + 1, 1, none⟩ = some (.int .i64 h.ny) := V3_h.c 1 _ rfl
  have q3_h_2 : w3.cell? ⟨w.heap.size + 1 + 1, 2, none⟩ = some (.int .i64 h.d) := V3_h.c 2 _ rfl
  have f3_h := V3_h.2.2
  have L3_h := V3_h.lt
  have N3_h := Nat.ne_of_gt L3_h
  have M3_h := Nat.ne_of_lt L3_h
  have V3_r : M.Var w3 (w.heap.size + 1 + 1 + 1) #[.int .i64 0, .int .i64 0, .int .i64 0, .int .i64 0, .int .i64 0, .int .i64 0, .int .i64 0, .int .i64 0] := M.var_rw (by (repeat (first | (with_reducible assumption) | (with_reducible apply M.var_set45) | (with_reducible apply M.var_setBd) | (with_reducible apply M.var_setV) | (with_reducible refine M.var_alloc' _ _ _ ?_; first | rfl | (focus (simp [go_sem]; done))) | (with_reducible refine M.Var.alloc ?_ _) | (with_reducible refine M.Var.drewN ?_ _) | (with_reducible refine M.Var.drew ?_) | (with_reducible refine M.Var.far ?_ _ _ ?hFar; case hFar => (first | omega | ((try simp [go_sem]) <;> omega))) | fail))) (by omega) hb
  have q3_r_0 : w3.cell? ⟨w.heap.size + 1 + 1 + 1, 0, none⟩ = some (.int .i64 0) := V3_r.c 0 _ rfl
  have q3_r_1 : w3.cell? ⟨w.heap.size + 1 + 1 + 1, 1, none⟩ = some (.int .i64 0) := V3_r.c 1 _ rfl
  have q3_r_2 : w3.cell? ⟨w.heap.size + 1 + 1 + 1, 2, none⟩ = some (.int .i64 0) := V3_r.c 2 _ rfl
  have q3_r_3 : w3.cell? ⟨w.heap.size + 1 + 1 + 1, 3, none⟩ = some (.int .i64 0) := V3_r.c 3 _ rfl
  have q3_r_4 : w3.cell? ⟨w.heap.size + 1 + 1 + 1, 4, none⟩ = some (.int .i64 0) := V3_r.c 4 _ rfl
  have q3_r_5 : w3.cell? ⟨w.heap.size + 1 + 1 + 1, 5, none⟩ = some (.int .i64 0) := V3_r.c 5 _ rfl
  have q3_r_6 : w3.cell? ⟨w.heap.size + 1 + 1 + 1, 6, none⟩ = some (.int .i64 0) := V3_r.c 6 _ rfl
  have q3_r_7 : w3.cell? ⟨w.heap.size + 1 + 1 + 1, 7, none⟩ = some (.int .i64 0) := V3_r.c 7 _ rfl
  have f3_r := V3_r.2.2
  have L3_r := V3_r.lt
  have N3_r := Nat.ne_of_gt L3_r
  have M3_r := Nat.ne_of_lt L3_r
  have V3_s : M.Var w3 (w.heap.size + 1 + 1 + 1 + 1) #[.int .i64 0, .int .i64 0, .int .i64 0, .int .i64 0, .int .i64 0, .int .i64 0, .int .i64 0, .int .i64 0] := M.var_rw (by (repeat (first | (with_reducible assumption) | (with_reducible apply M.var_set45) | (with_reducible apply M.var_setBd) | (with_reducible apply M.var_setV) | (with_reducible refine M.var_alloc' _ _ _ ?_; first | rfl | (focus (simp [go_sem]; done))) | (with_reducible refine M.Var.alloc ?_ _) | (with_reducible refine M.Var.drewN ?_ _) | (with_reducible refine M.Var.drew ?_) | (with_reducible refine M.Var.far ?_ _ _ ?hFar; case hFar => (first | omega | ((try simp [go_sem]) <;> omega))) | fail))) (by omega) hb
  have q3_s_0 : w3.cell? ⟨w.heap.size + 1 + 1 + 1 + 1, 0, none⟩ = some (.int .i64 0) := V3_s.c 0 _ rfl
  have q3_s_1 : w3.cell? ⟨w.heap.size + 1 + 1 + 1 + 1, 1, none⟩ = some (.int .i64 0) := V3_s.c 1 _ rfl
  have q3_s_2 : w3.cell? ⟨w.heap.size + 1 + 1 + 1 + 1, 2, none⟩ = some (.int .i64 0) := V3_s.c 2 _ rfl
  have q3_s_3 : w3.cell? ⟨w.heap.size + 1 + 1 + 1 + 1, 3, none⟩ = some (.int .i64 0) := V3_s.c 3 _ rfl
  have q3_s_4 : w3.cell? ⟨w.heap.size + 1 + 1 + 1 + 1, 4, none⟩ = some (.int .i64 0) := V3_s.c 4 _ rfl
  have q3_s_5 : w3.cell? ⟨w.heap.size + 1 + 1 + 1 + 1, 5, none⟩ = some (.int .i64 0) := V3_s.c 5 _ rfl
  have q3_s_6 : w3.cell? ⟨w.heap.size + 1 + 1 + 1 + 1, 6, none⟩ = some (.int .i64 0) := V3_s.c 6 _ rfl
  have q3_s_7 : w3.cell? ⟨w.heap.size + 1 + 1 + 1 + 1, 7, none⟩ = some (.int .i64 0) := V3_s.c 7 _ rfl
  have f3_s := V3_s.2.2
  have L3_s := V3_s.lt
  have N3_s := Nat.ne_of_gt L3_s
  have M3_s := Nat.ne_of_lt L3_s
  clear V2_a f2_a L2_a N2_a M2_a q2_a_0 q2_a_1 q2_a_2 q2_a_3 q2_a_4 q2_a_5 q2_a_6 q2_a_7 V2_b f2_b L2_b N2_b M2_b q2_b_0 q2_b_1 q2_b_2 q2_b_3 q2_b_4 q2_b_5 q2_b_6 q2_b_7 V2_h f2_h L2_h N2_h M2_h q2_h_0 q2_h_1 q2_h_2 V2_r f2_r L2_r N2_r M2_r q2_r_0 q2_r_1 q2_r_2 q2_r_3 q2_r_4 q2_r_5 q2_r_6 q2_r_7 V2_s f2_s L2_s N2_s M2_s q2_s_0 q2_s_1 q2_s_2 q2_s_3 q2_s_4 q2_s_5 q2_s_6 q2_s_7 PC2 c2_pb f2_pb L2_pb N2_pb M2_pb
  have HR3 := Lib.hid hr; clear hr
  have c3_pb := PC3.2.1; have f3_pb := PC3.2.2; have L3_pb := PC3.1; have N3_pb := Nat.ne_of_gt L3_pb; have M3_pb := Nat.ne_of_lt L3_pb
  have HG3 := Lib.hid G3; clear G3 hb
  go_wp2_with (with_reducible refine M.stopPost ?_)
  · have h3 : k = 0 := beq_iff_eq.1 (by assumption)
    have HK := Lib.hid (rel_bind HR1.out (rel_bind HR2.out HR3.out) : M.Rel e (bothK a b) k e3)
    go_region_held2 (fun w' => w'.cell? ⟨w.heap.size, 0, none⟩ = some (.int .i64 a.shape) ∧ w'.cell? ⟨w.heap.size, 1, none⟩ = some (.int .i64 a.sx) ∧ w'.cell? ⟨w.heap.size, 2, none⟩ = some (.int .i64 a.sy) ∧ w'.cell? ⟨w.heap.size, 3, none⟩ = some (.int .i64 a.mass) ∧ w'.cell? ⟨w.heap.size, 4, none⟩ = some (.int .i64 a.px) ∧ w'.cell? ⟨w.heap.size, 5, none⟩ = some (.int .i64 a.py) ∧ w'.cell? ⟨w.heap.size, 6, none⟩ = some (.int .i64 a.mx) ∧ w'.cell? ⟨w.heap.size, 7, none⟩ = some (.int .i64 a.my) ∧ w'.cell? ⟨w.heap.size + 1, 0, none⟩ = some (.int .i64 b.shape) ∧ w'.cell? ⟨w.heap.size + 1, 1, none⟩ = some (.int .i64 b.sx) ∧ w'.cell? ⟨w.heap.size + 1, 2, none⟩ = some (.int .i64 b.sy) ∧ w'.cell? ⟨w.heap.size + 1, 3, none⟩ = some (.int .i64 b.mass) ∧ w'.cell? ⟨w.heap.size + 1, 4, none⟩ = some (.int .i64 b.px) ∧ w'.cell? ⟨w.heap.size + 1, 5, none⟩ = some (.int .i64 b.py) ∧ w'.cell? ⟨w.heap.size + 1, 6, none⟩ = some (.int .i64 b.mx) ∧ w'.cell? ⟨w.heap.size + 1, 7, none⟩ = some (.int .i64 b.my)) (first | (go_keep; done) | (simp [*, go_sem, World.cell?_alloc_some, World.cell?_setCell_far]; done))
      (fail)
    all_goals go_wp2_with (with_reducible refine M.stopPost ?_)
    (try refine M.Stop.mk ?_)
    refine bodyPost_ret (v := .tuple #[.agg #[.int .i64 a.shape, .int .i64 a.sx, .int .i64 a.sy, .int .i64 a.mass, .int .i64 a.px, .int .i64 a.py, .int .i64 a.mx, .int .i64 a.my], .agg #[.int .i64 b.shape, .int .i64 b.sx, .int .i64 b.sy, .int .i64 b.mass, .int .i64 b.px, .int .i64 b.py, .int .i64 b.mx, .int .i64 b.my]]) (by first | (simp [results, Try.results34, go_sem, q3_r_0, q3_r_1, q3_r_2, q3_r_3, q3_r_4, q3_r_5, q3_r_6, q3_r_7, f3_r, L3_r, N3_r, M3_r, q3_s_0, q3_s_1, q3_s_2, q3_s_3, q3_s_4, q3_s_5, q3_s_6, q3_s_7, f3_s, L3_s, N3_s, M3_s]; done) | (simp [results, Try.results34, go_sem, *]; done)) rfl ?_
    (try unfold M.RelHb); (try unfold M.RelBB); (try unfold M.RelI); (try unfold M.RelV); exact ⟨a, b, e3, rfl, HA.out, HB.out, (rel_bind HK.out (by rw [if_pos h3]; exact rel_ok _ _)), by have G := HG3.out; (repeat (with_reducible refine M.Below.drewN ?_ _)); go_grown⟩
  · have h3 : ¬ k = 0 := beq_eq_false_iff_ne.1 (by assumption)
    have HK := Lib.hid (rel_bind HR1.out (rel_bind HR2.out HR3.out) : M.Rel e (bothK a b) k e3)
    have HL := Lib.hid (show e3 = 0 → lightX a = .ok la ∧ lightX b = .ok lb from fun h0 => by
      obtain ⟨h2, _⟩ := rel_zero HR3.out h0
      obtain ⟨h1, p2⟩ := rel_zero HR2.out h2
      exact ⟨(rel_zero HR1.out h1).2, p2⟩)
    (with_reducible refine (C6.out e3 _ (by (repeat (first | (with_reducible assumption) | (with_reducible refine M.pcell_alloc ?_ _) | (with_reducible refine M.pcell_drewN ?_ _) | (with_reducible refine M.pcell_drew ?_) | (with_reducible refine M.pcell_far ?_ _ _ ?hFar; case hFar => (first | omega | ((try simp [go_sem]) <;> omega))) | fail)))).mono ?_); rintro en w4 ⟨vx, vy, e4, rfl, ivx, ivy, hr, hb⟩
    have G4 : M.RW pb e4 w w4 := M.rw_step (by have G := HG3.out; (repeat (with_reducible refine M.Below.drewN ?_ _)); go_grown) hb hpb
    have S4 : w.heap.size ≤ w4.heap.size := by have := G4.size; rwa [M.setCell_size] at this
    have PC4 : M.PCell w4 pb e4 := M.pcell_behind hb (e := e3) (by (repeat (first | (with_reducible assumption) | (with_reducible refine M.pcell_alloc ?_ _) | (with_reducible refine M.pcell_drewN ?_ _) | (with_reducible refine M.pcell_drew ?_) | (with_reducible refine M.pcell_far ?_ _ _ ?hFar; case hFar => (first | omega | ((try simp [go_sem]) <;> omega))) | fail)))
    have V4_a : M.Var w4 (w.heap.size) #[.int .i64 a.shape, .int .i64 a.sx, .int .i64 a.sy, .int .i64 a.mass, .int .i64 a.px, .int .i64 a.py, .int .i64 a.mx, .int .i64 a.my] := M.var_rw (by (repeat (first | (with_reducible assumption) | (with_reducible apply M.var_set45) | (with_reducible apply M.var_setBd) | (with_reducible apply M.var_setV) | (with_reducible refine M.var_alloc' _ _ _ ?_; first | rfl | (focus (simp [go_sem]; done))) | (with_reducible refine M.Var.alloc ?_ _) | (with_reducible refine M.Var.drewN ?_ _) | (with_reducible refine M.Var.drew ?_) | (with_reducible refine M.Var.far ?_ _ _ ?hFar; case hFar => (first | omega | ((try simp [go_sem]) <;> omega))) | fail))) (by omega) hb
    have q4_a_0 : w4.cell? ⟨w.heap.size, 0, none⟩ = some (.int .i64 a.shape) := V4_a.c 0 _ rfl
    have q4_a_1 : w4.cell? ⟨w.heap.size, 1, none⟩ = some (.int .i64 a.sx) := V4_a.c 1 _ rfl
    have q4_a_2 : w4.cell? ⟨w.heap.size, 2, none⟩ = some (.int .i64 a.sy) := V4_a.c 2 _ rfl
    have q4_a_3 : w4.cell? ⟨w.heap.size, 3, none⟩ = some (.int .i64 a.mass) := V4_a.c 3 _ rfl
    have q4_a_4 : w4.cell? ⟨w.heap.size, 4, none⟩ = some (.int .i64 a.px) := V4_a.c 4 _ rfl
    have q4_a_5 : w4.cell? ⟨w.heap.size, 5, none⟩ = some (.int .i64 a.py) := V4_a.c 5 _ rfl
    have q4_a_6 : w4.cell? ⟨w.heap.size, 6, none⟩ = some (.int .i64 a.mx) := V4_a.c 6 _ rfl
    have q4_a_7 : w4.cell? ⟨w.heap.size, 7, none⟩ = some (.int .i64 a.my) := V4_a.c 7 _ rfl
    have f4_a := V4_a.2.2
    have L4_a := V4_a.lt
    have N4_a := Nat.ne_of_gt L4_a
    have M4_a := Nat.ne_of_lt L4_a
    have V4_b : M.Var w4 (w.heap.size + 1) #[.int .i64 b.shape, .int .i64 b.sx, .int .i64 b.sy, .int .i64 b.mass, .int .i64 b.px, .int .i64 b.py, .int .i64 b.mx, .int .i64 b.my] := M.var_rw (by (repeat (first | (with_reducible assumption) | (with_reducible apply M.var_set45) | (with_reducible apply M.var_setBd) | (with_reducible apply M.var_setV) | (with_reducible refine M.var_alloc' _ _ _ ?_; first | rfl | (focus (simp [go_sem]; done))) | (with_reducible refine M.Var.alloc ?_ _) | (with_reducible refine M.Var.drewN ?_ _) | (with_reducible refine M.Var.drew ?_) | (with_reducible refine M.Var.far ?_ _ _ ?hFar; case hFar => (first | omega | ((try simp [go_sem]) <;> omega))) | fail))) (by omega) hb
    have q4_b_0 : w4.cell? ⟨w.heap.size + 1, 0, none⟩ = some (.int .i64 b.shape) := V4_b.c 0 _ rfl
    have q4_b_1 : w4.cell? ⟨w.heap.size + 1, 1, none⟩ = some (.int .i64 b.sx) := V4_b.c 1 _ rfl
    have q4_b_2 : w4.cell? ⟨w.heap.size + 1, 2, none⟩ = some (.int .i64 b.sy) := V4_b.c 2 _ rfl
    have q4_b_3 : w4.cell? ⟨w.heap.size + 1, 3, none⟩ = some (.int .i64 b.mass) := V4_b.c 3 _ rfl
    have q4_b_4 : w4.cell? ⟨w.heap.size + 1, 4, none⟩ = some (.int .i64 b.px) := V4_b.c 4 _ rfl
    have q4_b_5 : w4.cell? ⟨w.heap.size + 1, 5, none⟩ = some (.int .i64 b.py) := V4_b.c 5 _ rfl
    have q4_b_6 : w4.cell? ⟨w.heap.size + 1, 6, none⟩ = some (.int .i64 b.mx) := V4_b.c 6 _ rfl
    have q4_b_7 : w4.cell? ⟨w.heap.size + 1, 7, none⟩ = some (.int .i64 b.my) := V4_b.c 7 _ rfl
    have f4_b := V4_b.2.2
    have L4_b := V4_b.lt
    have N4_b := Nat.ne_of_gt L4_b
    have M4_b := Nat.ne_of_lt L4_b
    have V4_h : M.Var w4 (w.heap.size + 1 + 1) #[.int .i64 h.nx, .int .i64 h.ny, .int .i64 h.d] := M.var_rw (by (repeat (first | (with_reducible assumption) | (with_reducible apply M.var_set45) | (with_reducible apply M.var_setBd) | (with_reducible apply M.var_setV) | (with_reducible refine M.var_alloc' _ _ _ ?_; first | rfl | (focus (simp [go_sem]; done))) | (with_reducible refine M.Var.alloc ?_ _) | (with_reducible refine M.Var.drewN ?_ _) | (with_reducible refine M.Var.drew ?_) | (with_reducible refine M.Var.far ?_ _ _ ?hFar; case hFar => (first | omega | ((try simp [go_sem]) <;> omega))) | fail))) (by omega) hb
    have q4_h_0 : w4.cell? ⟨w.heap.size + 1 + 1, 0, none⟩ = some (.int .i64 h.nx) := V4_h.c 0 _ rfl
    have q4_h_1 : w4.cell? ⟨w.heap.size + 1 + 1, 1, none⟩ = some (.int .i64 h.ny) := V4_h.c 1 _ rfl
    have q4_h_2 : w4.cell? ⟨w.heap.size + 1 + 1, 2, none⟩ = some (.int .i64 h.d) := V4_h.c 2 _ rfl
    have f4_h := V4_h.2.2
    have L4_h := V4_h.lt
    have N4_h := Nat.ne_of_gt L4_h
    have M4_h := Nat.ne_of_lt L4_h
    have V4_r : M.Var w4 (w.heap.size + 1 + 1 + 1) #[.int .i64 0, .int .i64 0, .int .i64 0, .int .i64 0, .int .i64 0, .int .i64 0, .int .i64 0, .int .i64 0] := M.var_rw (by (repeat (first | (with_reducible assumption) | (with_reducible apply M.var_set45) | (with_reducible apply M.var_setBd) | (with_reducible apply M.var_setV) | (with_reducible refine M.var_alloc' _ _ _ ?_; first | rfl | (focus (simp [go_sem]; done))) | (with_reducible refine M.Var.alloc ?_ _) | (with_reducible refine M.Var.drewN ?_ _) | (with_reducible refine M.Var.drew ?_) | (with_reducible refine M.Var.far ?_ _ _ ?hFar; case hFar => (first | omega | ((try simp [go_sem]) <;> omega))) | fail))) (by omega) hb
    have q4_r_0 : w4.cell? ⟨w.heap.size + 1 + 1 + 1, 0, none⟩ = some (.int .i64 0) := V4_r.c 0 _ rfl
    have q4_r_1 : w4.cell? ⟨w.heap.size + 1 + 1 + 1, 1, none⟩ = some (.int .i64 0) := V4_r.c 1 _ rfl
    have q4_r_2 : w4.cell? ⟨w.heap.size + 1 + 1 + 1, 2, none⟩ = some (.int .i64 0) := V4_r.c 2 _ rfl
    have q4_r_3 : w4.cell? ⟨w.heap.size + 1 + 1 + 1, 3, none⟩ = some (.int .i64 0) := V4_r.c 3 _ rfl
    have q4_r_4 : w4.cell? ⟨w.heap.size + 1 + 1 + 1, 4, none⟩ = some (.int .i64 0) := V4_r.c 4 _ rfl
    have q4_r_5 : w4.cell? ⟨w.heap.size + 1 + 1 + 1, 5, none⟩ = some (.int .i64 0) := V4_r.c 5 _ rfl
    have q4_r_6 : w4.cell? ⟨w.heap.size + 1 + 1 + 1, 6, none⟩ = some (.int .i64 0) := V4_r.c 6 _ rfl
    have q4_r_7 : w4.cell? ⟨w.heap.size + 1 + 1 + 1, 7, none⟩ = some (.int .i64 0) := V4_r.c 7 _ rfl
    have f4_r := V4_r.2.2
    have L4_r := V4_r.lt
    have N4_r := Nat.ne_of_gt L4_r
    have M4_r := Nat.ne_of_lt L4_r
    have V4_s : M.Var w4 (w.heap.size + 1 + 1 + 1 + 1) #[.int .i64 0, .int .i64 0, .int .i64 0, .int .i64 0, .int .i64 0, .int .i64 0, .int .i64 0, .int .i64 0] := M.var_rw (by (repeat (first | (with_reducible assumption) | (with_reducible apply M.var_set45) | (with_reducible apply M.var_setBd) | (with_reducible apply M.var_setV) | (with_reducible refine M.var_alloc' _ _ _ ?_; first | rfl | (focus (simp [go_sem]; done))) | (with_reducible refine M.Var.alloc ?_ _) | (with_reducible refine M.Var.drewN ?_ _) | (with_reducible refine M.Var.drew ?_) | (with_reducible refine M.Var.far ?_ _ _ ?hFar; case hFar => (first | omega | ((try simp [go_sem]) <;> omega))) | fail))) (by omega) hb
    have q4_s_0 : w4.cell? ⟨w.heap.size + 1 + 1 + 1 + 1, 0, none⟩ = some (.int .i64 0) := V4_s.c 0 _ rfl
    have q4_s_1 : w4.cell? ⟨w.heap.size + 1 + 1 + 1 + 1, 1, none⟩ = some (.int .i64 0) := V4_s.c 1 _ rfl
    have q4_s_2 : w4.cell? ⟨w.heap.size + 1 + 1 + 1 + 1, 2, none⟩ = some (.int .i64 0) := V4_s.c 2 _ rfl
    have q4_s_3 : w4.cell? ⟨w.heap.size + 1 + 1 + 1 + 1, 3, none⟩ = some (.int .i64 0) := V4_s.c 3 _ rfl
    have q4_s_4 : w4.cell? ⟨w.heap.size + 1 + 1 + 1 + 1, 4, none⟩ = some (.int .i64 0) := V4_s.c 4 _ rfl
    have q4_s_5 : w4.cell? ⟨w.heap.size + 1 + 1 + 1 + 1, 5, none⟩ = some (.int .i64 0) := V4_s.c 5 _ rfl
    have q4_s_6 : w4.cell? ⟨w.heap.size + 1 + 1 + 1 + 1, 6, none⟩ = some (.int .i64 0) := V4_s.c 6 _ rfl
    have q4_s_7 : w4.cell? ⟨w.heap.size + 1 + 1 + 1 + 1, 7, none⟩ = some (.int .i64 0) := V4_s.c 7 _ rfl
    have f4_s := V4_s.2.2
    have L4_s := V4_s.lt
    have N4_s := Nat.ne_of_gt L4_s
    have M4_s := Nat.ne_of_lt L4_s
    clear V3_a f3_a L3_a N3_a M3_a q3_a_0 q3_a_1 q3_a_2 q3_a_3 q3_a_4 q3_a_5 q3_a_6 q3_a_7 V3_b f3_b L3_b N3_b M3_b q3_b_0 q3_b_1 q3_b_2 q3_b_3 q3_b_4 q3_b_5 q3_b_6 q3_b_7 V3_h f3_h L3_h N3_h M3_h q3_h_0 q3_h_1 q3_h_2 V3_r f3_r L3_r N3_r M3_r q3_r_0 q3_r_1 q3_r_2 q3_r_3 q3_r_4 q3_r_5 q3_r_6 q3_r_7 V3_s f3_s L3_s N3_s M3_s q3_s_0 q3_s_1 q3_s_2 q3_s_3 q3_s_4 q3_s_5 q3_s_6 q3_s_7 PC3 c3_pb f3_pb L3_pb N3_pb M3_pb
    have HR4 := Lib.hid hr; clear hr
    have c4_pb := PC4.2.1; have f4_pb := PC4.2.2; have L4_pb := PC4.1; have N4_pb := Nat.ne_of_gt L4_pb; have M4_pb := Nat.ne_of_lt L4_pb
    have HG4 := Lib.hid G4; clear G4 hb
    go_wp2_with (with_reducible refine M.stopPost ?_)
    (with_reducible refine (C7.out e4 _ (by (repeat (first | (with_reducible assumption) | (with_reducible refine M.pcell_alloc ?_ _) | (with_reducible refine M.pcell_drewN ?_ _) | (with_reducible refine M.pcell_drew ?_) | (with_reducible refine M.pcell_far ?_ _ _ ?hFar; case hFar => (first | omega | ((try simp [go_sem]) <;> omega))) | fail)))).mono ?_); rintro en w5 ⟨ux, uy, e5, rfl, iux, iuy, hr, hb⟩
    have G5 : M.RW pb e5 w w5 := M.rw_step (by have G := HG4.out; (repeat (with_reducible refine M.Below.drewN ?_ _)); go_grown) hb hpb
    have S5 : w.heap.size ≤ w5.heap.size := by have := G5.size; rwa [M.setCell_size] at this
    have PC5 : M.PCell w5 pb e5 := M.pcell_behind hb (e := e4) (by (repeat (first | (with_reducible assumption) | (with_reducible refine M.pcell_alloc ?_ _) | (with_reducible refine M.pcell_drewN ?_ _) | (with_reducible refine M.pcell_drew ?_) | (with_reducible refine M.pcell_far ?_ _ _ ?hFar; case hFar => (first | omega | ((try simp [go_sem]) <;> omega))) | fail)))
    have V5_a : M.Var w5 (w.heap.size) #[.int .i64 a.shape, .int .i64 a.sx, .int .i64 a.sy, .int .i64 a.mass, .int .i64 a.px, .int .i64 a.py, .int .i64 a.mx, .int .i64 a.my] := M.var_rw (by (repeat (first | (with_reducible assumption) | (with_reducible apply M.var_set45) | (with_reducible apply M.var_setBd) | (with_reducible apply M.var_setV) | (with_reducible refine M.var_alloc' _ _ _ ?_; first | rfl | (focus (simp [go_sem]; done))) | (with_reducible refine M.Var.alloc ?_ _) | (with_reducible refine M.Var.drewN ?_ _) | (with_reducible refine M.Var.drew ?_) | (with_reducible refine M.Var.far ?_ _ _ ?hFar; case hFar => (first | omega | ((try simp [go_sem]) <;> omega))) | fail))) (by omega) hb
    have q5_a_0 : w5.cell? ⟨w.heap.size, 0, none⟩ = some (.int .i64 a.shape) := V5_a.c 0 _ rfl
    have q5_a_1 : w5.cell? ⟨w.heap.size, 1, none⟩ = some (.int .i64 a.sx) := V5_a.c 1 _ rfl
    have q5_a_2 : w5.cell? ⟨w.heap.size, 2, none⟩ = some (.int .i64 a.sy) := V5_a.c 2 _ rfl
    have q5_a_3 : w5.cell? ⟨w.heap.size, 3, none⟩ = some (.int .i64 a.mass) := V5_a.c 3 _ rfl
    have q5_a_4 : w5.cell? ⟨w.heap.size, 4, none⟩ = some (.int .i64 a.px) := V5_a.c 4 _ rfl
    have q5_a_5 : w5.cell? ⟨w.heap.size, 5, none⟩ = some (.int .i64 a.py) := V5_a.c 5 _ rfl
    have q5_a_6 : w5.cell? ⟨w.heap.size, 6, none⟩ = some (.int .i64 a.mx) := V5_a.c 6 _ rfl
    have q5_a_7 : w5.cell? ⟨w.heap.size, 7, none⟩ = some (.int .i64 a.my) := V5_a.c 7 _ rfl
    have f5_a := V5_a.2.2
    have L5_a := V5_a.lt
    have N5_a := Nat.ne_of_gt L5_a
    have M5_a := Nat.ne_of_lt L5_a
    have V5_b : M.Var w5 (w.heap.size + 1) #[.int .i64 b.shape, .int .i64 b.sx, .int .i64 b.sy, .int .i64 b.mass, .int .i64 b.px, .int .i64 b.py, .int .i64 b.mx, .int .i64 b.my] := M.var_rw (by (repeat (first | (with_reducible assumption) | (with_reducible apply M.var_set45) | (with_reducible apply M.var_setBd) | (with_reducible apply M.var_setV) | (with_reducible refine M.var_alloc' _ _ _ ?_; first | rfl | (focus (simp [go_sem]; done))) | (with_reducible refine M.Var.alloc ?_ _) | (with_reducible refine M.Var.drewN ?_ _) | (with_reducible refine M.Var.drew ?_) | (with_reducible refine M.Var.far ?_ _ _ ?hFar; case hFar => (first | omega | ((try simp [go_sem]) <;> omega))) | fail))) (by omega) hb
    have q5_b_0 : w5.cell? ⟨w.heap.size + 1, 0, none⟩ = some (.int .i64 b.shape) := V5_b.c 0 _ rfl
    have q5_b_1 : w5.cell? ⟨w.heap.size + 1, 1, none⟩ = some (.int .i64 b.sx) := V5_b.c 1 _ rfl
    have q5_b_2 : w5.cell? ⟨w.heap.size + 1, 2, none⟩ = some (.int .i64 b.sy) := V5_b.c 2 _ rfl
    have q5_b_3 : w5.cell? ⟨w.heap.size + 1, 3, none⟩ = some (.int .i64 b.mass) := V5_b.c 3 _ rfl
    have q5_b_4 : w5.cell? ⟨w.heap.size + 1, 4, none⟩ = some (.int .i64 b.px) := V5_b.c 4 _ rfl
    have q5_b_5 : w5.cell? ⟨w.heap.size + 1, 5, none⟩ = some (.int .i64 b.py) := V5_b.c 5 _ rfl
    have q5_b_6 : w5.cell? ⟨w.heap.size + 1, 6, none⟩ = some (.int .i64 b.mx) := V5_b.c 6 _ rfl
    have q5_b_7 : w5.cell? ⟨w.heap.size + 1, 7, none⟩ = some (.int .i64 b.my) := V5_b.c 7 _ rfl
    have f5_b := V5_b.2.2
    have L5_b := V5_b.lt
    have N5_b := Nat.ne_of_gt L5_b
    have M5_b := Nat.ne_of_lt L5_b
    have V5_h : M.Var w5 (w.heap.size + 1 + 1) #[.int .i64 h.nx, .int .i64 h.ny, .int .i64 h.d] := M.var_rw (by (repeat (first | (with_reducible assumption) | (with_reducible apply M.var_set45) | (with_reducible apply M.var_setBd) | (with_reducible apply M.var_setV) | (with_reducible refine M.var_alloc' _ _ _ ?_; first | rfl | (focus (simp [go_sem]; done))) | (with_reducible refine M.Var.alloc ?_ _) | (with_reducible refine M.Var.drewN ?_ _) | (with_reducible refine M.Var.drew ?_) | (with_reducible refine M.Var.far ?_ _ _ ?hFar; case hFar => (first | omega | ((try simp [go_sem]) <;> omega))) | fail))) (by omega) hb
    have q5_h_0 : w5.cell? ⟨w.heap.size + 1 + 1, 0, none⟩ = some (.int .i64 h.nx) := V5_h.c 0 _ rfl
    have q5_h_1 : w5.cell? ⟨w.heap.size + 1 + 1, 1, none⟩ = some (.int .i64 h.ny) := V5_h.c 1 _ rfl
    have q5_h_2 : w5.cell? ⟨w.heap.size + 1 + 1, 2, none⟩ = some (.int .i64 h.d) := V5_h.c 2 _ rfl
    have f5_h := V5_h.2.2
    have L5_h := V5_h.lt
    have N5_h := Nat.ne_of_gt L5_h
    have M5_h := Nat.ne_of_lt L5_h
    have V5_r : M.Var w5 (w.heap.size + 1 + 1 + 1) #[.int .i64 0, .int .i64 0, .int .i64 0, .int .i64 0, .int .i64 0, .int .i64 0, .int .i64 0, .int .i64 0] := M.var_rw (by (repeat (first | (with_reducible assumption) | (with_reducible apply M.var_set45) | (with_reducible apply M.var_setBd) | (with_reducible apply M.var_setV) | (with_reducible refine M.var_alloc' _ _ _ ?_; first | rfl | (focus (simp [go_sem]; done))) | (with_reducible refine M.Var.alloc ?_ _) | (with_reducible refine M.Var.drewN ?_ _) | (with_reducible refine M.Var.drew ?_) | (with_reducible refine M.Var.far ?_ _ _ ?hFar; case hFar => (first | omega | ((try simp [go_sem]) <;> omega))) | fail))) (by omega) hb
    have q5_r_0 : w5.cell? ⟨w.heap.size + 1 + 1 + 1, 0, none⟩ = some (.int .i64 0) := V5_r.c 0 _ rfl
    have q5_r_1 : w5.cell? ⟨w.heap.size + 1 + 1 + 1, 1, none⟩ = some (.int .i64 0) := V5_r.c 1 _ rfl
    have q5_r_2 : w5.cell? ⟨w.heap.size + 1 + 1 + 1, 2, none⟩ = some (.int .i64 0) := V5_r.c 2 _ rfl
    have q5_r_3 : w5.cell? ⟨w.heap.size + 1 + 1 + 1, 3, none⟩ = some (.int .i64 0) := V5_r.c 3 _ rfl
    have q5_r_4 : w5.cell? ⟨w.heap.size + 1 + 1 + 1, 4, none⟩ = some (.int .i64 0) := V5_r.c 4 _ rfl
    have q5_r_5 : w5.cell? ⟨w.heap.size + 1 + 1 + 1, 5, none⟩ = some (.int .i64 0) := V5_r.c 5 _ rfl
    have q5_r_6 : w5.cell? ⟨w.heap.size + 1 + 1 + 1, 6, none⟩ = some (.int .i64 0) := V5_r.c 6 _ rfl
    have q5_r_7 : w5.cell? ⟨w.heap.size + 1 + 1 + 1, 7, none⟩ = some (.int .i64 0) := V5_r.c 7 _ rfl
    have f5_r := V5_r.2.2
    have L5_r := V5_r.lt
    have N5_r := Nat.ne_of_gt L5_r
    have M5_r := Nat.ne_of_lt L5_r
    have V5_s : M.Var w5 (w.heap.size + 1 + 1 + 1 + 1) #[.int .i64 0, .int .i64 0, .int .i64 0, .int .i64 0, .int .i64 0, .int .i64 0, .int .i64 0, .int .i64 0] := M.var_rw (by (repeat (first | (with_reducible assumption) | (with_reducible apply M.var_set45) | (with_reducible apply M.var_setBd) | (with_reducible apply M.var_setV) | (with_reducible refine M.var_alloc' _ _ _ ?_; first | rfl | (focus (simp [go_sem]; done))) | (with_reducible refine M.Var.alloc ?_ _) | (with_reducible refine M.Var.drewN ?_ _) | (with_reducible refine M.Var.drew ?_) | (with_reducible refine M.Var.far ?_ _ _ ?hFar; case hFar => (first | omega | ((try simp [go_sem]) <;> omega))) | fail))) (by omega) hb
    have q5_s_0 : w5.cell? ⟨w.heap.size + 1 + 1 + 1 + 1, 0, none⟩ = some (.int .i64 0) := V5_s.c 0 _ rfl
    have q5_s_1 : w5.cell? ⟨w.heap.size + 1 + 1 + 1 + 1, 1, none⟩ = some (.int .i64 0) := V5_s.c 1 _ rfl
    have q5_s_2 : w5.cell? ⟨w.heap.size + 1 + 1 + 1 + 1, 2, none⟩ = some (.int .i64 0) := V5_s.c 2 _ rfl
    have q5_s_3 : w5.cell? ⟨w.heap.size + 1 + 1 + 1 + 1, 3, none⟩ = some (.int .i64 0) := V5_s.c 3 _ rfl
    have q5_s_4 : w5.cell? ⟨w.heap.size + 1 + 1 + 1 + 1, 4, none⟩ = some (.int .i64 0) := V5_s.c 4 _ rfl
    have q5_s_5 : w5.cell? ⟨w.heap.size + 1 + 1 + 1 + 1, 5, none⟩ = some (.int .i64 0) := V5_s.c 5 _ rfl
    have q5_s_6 : w5.cell? ⟨w.heap.size + 1 + 1 + 1 + 1, 6, none⟩ = some (.int .i64 0) := V5_s.c 6 _ rfl
    have q5_s_7 : w5.cell? ⟨w.heap.size + 1 + 1 + 1 + 1, 7, none⟩ = some (.int .i64 0) := V5_s.c 7 _ rfl
    have f5_s := V5_s.2.2
    have L5_s := V5_s.lt
    have N5_s := Nat.ne_of_gt L5_s
    have M5_s := Nat.ne_of_lt L5_s
    have V5_sb : M.Var w5 (w4.heap.size) #[.int .i64 vx, .int .i64 vy] := M.var_rw (by (repeat (first | (with_reducible assumption) | (with_reducible apply M.var_set45) | (with_reducible apply M.var_setBd) | (with_reducible apply M.var_setV) | (with_reducible refine M.var_alloc' _ _ _ ?_; first | rfl | (focus (simp [go_sem]; done))) | (with_reducible refine M.Var.alloc ?_ _) | (with_reducible refine M.Var.drewN ?_ _) | (with_reducible refine M.Var.drew ?_) | (with_reducible refine M.Var.far ?_ _ _ ?hFar; case hFar => (first | omega | ((try simp [go_sem]) <;> omega))) | fail))) (by omega) hb
    have q5_sb_0 : w5.cell? ⟨w4.heap.size, 0, none⟩ = some (.int .i64 vx) := V5_sb.c 0 _ rfl
    have q5_sb_1 : w5.cell? ⟨w4.heap.size, 1, none⟩ = some (.int .i64 vy) := V5_sb.c 1 _ rfl
    have f5_sb := V5_sb.2.2
    have L5_sb := V5_sb.lt
    have N5_sb := Nat.ne_of_gt L5_sb
    have M5_sb := Nat.ne_of_lt L5_sb
    clear V4_a f4_a q4_a_0 q4_a_1 q4_a_2 q4_a_3 q4_a_4 q4_a_5 q4_a_6 q4_a_7 V4_b f4_b q4_b_0 q4_b_1 q4_b_2 q4_b_3 q4_b_4 q4_b_5 q4_b_6 q4_b_7 V4_h f4_h q4_h_0 q4_h_1 q4_h_2 V4_r f4_r q4_r_0 q4_r_1 q4_r_2 q4_r_3 q4_r_4 q4_r_5 q4_r_6 q4_r_7 V4_s f4_s q4_s_0 q4_s_1 q4_s_2 q4_s_3 q4_s_4 q4_s_5 q4_s_6 q4_s_7 PC4 c4_pb f4_pb
    have HR5 := Lib.hid hr; clear hr
    have c5_pb := PC5.2.1; have f5_pb := PC5.2.2; have L5_pb := PC5.1; have N5_pb := Nat.ne_of_gt L5_pb; have M5_pb := Nat.ne_of_lt L5_pb
    have HG5 := Lib.hid G5; clear G5 hb
    go_wp2_with (with_reducible refine M.stopPost ?_)
    go_region_held2 (fun w' => w'.cell? ⟨w4.heap.size, 0, none⟩ = some (.int .i64 vx) ∧ w'.cell? ⟨w4.heap.size, 1, none⟩ = some (.int .i64 vy) ∧ w'.cell? ⟨w5.heap.size, 0, none⟩ = some (.int .i64 ux) ∧ w'.cell? ⟨w5.heap.size, 1, none⟩ = some (.int .i64 uy) ∧ w'.cell? ⟨w.heap.size + 1 + 1, 0, none⟩ = some (.int .i64 h.nx) ∧ w'.cell? ⟨w.heap.size + 1 + 1, 1, none⟩ = some (.int .i64 h.ny) ∧ w'.cell? ⟨w.heap.size + 1 + 1, 2, none⟩ = some (.int .i64 h.d)) (first | (go_keep; done) | (simp [*, go_sem, World.cell?_alloc_some, World.cell?_setCell_far]; done))
      (first
      | (go_at_call 64; refine (C8.out e5 _ _ _ _ ivx ivy iux iuy _ (by (repeat (first | (with_reducible assumption) | (with_reducible refine M.pcell_alloc ?_ _) | (with_reducible refine M.pcell_drewN ?_ _) | (with_reducible refine M.pcell_drew ?_) | (with_reducible refine M.pcell_far ?_ _ _ ?hFar; case hFar => (first | omega | ((try simp [go_sem]) <;> omega))) | fail)))).mono ?_; rintro en w6 ⟨qx, qy, e6, rfl, iqx, iqy, hr, hb⟩
         have G6 : M.RW pb e6 w w6 := M.rw_step (by have G := HG5.out; (repeat (with_reducible refine M.Below.drewN ?_ _)); go_grown) hb hpb
         have S6 : w.heap.size ≤ w6.heap.size := by have := G6.size; rwa [M.setCell_size] at this
         have PC6 : M.PCell w6 pb e6 := M.pcell_behind hb (e := e5) (by (repeat (first | (with_reducible assumption) | (with_reducible refine M.pcell_alloc ?_ _) | (with_reducible refine M.pcell_drewN ?_ _) | (with_reducible refine M.pcell_drew ?_) | (with_reducible refine M.pcell_far ?_ _ _ ?hFar; case hFar => (first | omega | ((try simp [go_sem]) <;> omega))) | fail)))
         have V6_a : M.Var w6 (w.heap.size) #[.int .i64 a.shape, .int .i64 a.sx, .int .i64 a.sy, .int .i64 a.mass, .int .i64 a.px, .int .i64 a.py, .int .i64 a.mx, .int .i64 a.my] := M.var_rw (by (repeat (first | (with_reducible assumption) | (with_reducible apply M.var_set45) | (with_reducible apply M.var_setBd) | (with_reducible apply M.var_setV) | (with_reducible refine M.var_alloc' _ _ _ ?_; first | rfl | (focus (simp [go_sem]; done))) | (with_reducible refine M.Var.alloc ?_ _) | (with_reducible refine M.Var.drewN ?_ _) | (with_reducible refine M.Var.drew ?_) | (with_reducible refine M.Var.far ?_ _ _ ?hFar; case hFar => (first | omega | ((try simp [go_sem]) <;> omega))) | fail))) (by omega) hb
         have q6_a_0 : w6.cell? ⟨w.heap.size, 0, none⟩ = some (.int .i64 a.shape) := V6_a.c 0 _ rfl
         have q6_a_1 : w6.cell? ⟨w.heap.size, 1, none⟩ = some (.int .i64 a.sx) := V6_a.c 1 _ rfl
         have q6_a_2 : w6.cell? ⟨w.heap.size, 2, none⟩ = some (.int .i64 a.sy) := V6_a.c 2 _ rfl
         have q6_a_3 : w6.cell? ⟨w.heap.size, 3, none⟩ = some (.int .i64 a.mass) := V6_a.c 3 _ rfl
         have q6_a_4 : w6.cell? ⟨w.heap.size, 4, none⟩ = some (.int .i64 a.px) := V6_a.c 4 _ rfl
         have q6_a_5 : w6.cell? ⟨w.heap.size, 5, none⟩ = some (.int .i64 a.py) := V6_a.c 5 _ rfl
         have q6_a_6 : w6.cell? ⟨w.heap.size, 6, none⟩ = some (.int .i64 a.mx) := V6_a.c 6 _ rfl
         have q6_a_7 : w6.cell? ⟨w.heap.size, 7, none⟩ = some (.int .i64 a.my) := V6_a.c 7 _ rfl
         have f6_a := V6_a.2.2
         have L6_a := V6_a.lt
         have N6_a := Nat.ne_of_gt L6_a
         have M6_a := Nat.ne_of_lt L6_a
         have V6_b : M.Var w6 (w.heap.size + 1) #[.int .i64 b.shape, .int .i64 b.sx, .int .i64 b.sy, .int .i64 b.mass, .int .i64 b.px, .int .i64 b.py, .int .i64 b.mx, .int .i64 b.my] := M.var_rw (by (repeat (first | (with_reducible assumption) | (with_reducible apply M.var_set45) | (with_reducible apply M.var_setBd) | (with_reducible apply M.var_setV) | (with_reducible refine M.var_alloc' _ _ _ ?_; first | rfl | (focus (simp [go_sem]; done))) | (with_reducible refine M.Var.alloc ?_ _) | (with_reducible refine M.Var.drewN ?_ _) | (with_reducible refine M.Var.drew ?_) | (with_reducible refine M.Var.far ?_ _ _ ?hFar; case hFar => (first | omega | ((try simp [go_sem]) <;> omega))) | fail))) (by omega) hb
         have q6_b_0 : w6.cell? ⟨w.heap.size + 1, 0, none⟩ = some (.int .i64 b.shape) := V6_b.c 0 _ rfl
         have q6_b_1 : w6.cell? ⟨w.heap.size + 1, 1, none⟩ = some (.int .i64 b.sx) := V6_b.c 1 _ rfl
         have q6_b_2 : w6.cell? ⟨w.heap.size + 1, 2, none⟩ = some (.int .i64 b.sy) := V6_b.c 2 _ rfl
         have q6_b_3 : w6.cell? ⟨w.heap.size + 1, 3, none⟩ = some (.int .i64 b.mass) := V6_b.c 3 _ rfl
         have q6_b_4 : w6.cell? ⟨w.heap.size + 1, 4, none⟩ = some (.int .i64 b.px) := V6_b.c 4 _ rfl
         have q6_b_5 : w6.cell? ⟨w.heap.size + 1, 5, none⟩ = some (.int .i64 b.py) := V6_b.c 5 _ rfl
         have q6_b_6 : w6.cell? ⟨w.heap.size + 1, 6, none⟩ = some (.int .i64 b.mx) := V6_b.c 6 _ rfl
         have q6_b_7 : w6.cell? ⟨w.heap.size + 1, 7, none⟩ = some (.int .i64 b.my) := V6_b.c 7 _ rfl
         have f6_b := V6_b.2.2
         have L6_b := V6_b.lt
         have N6_b := Nat.ne_of_gt L6_b
         have M6_b := Nat.ne_of_lt L6_b
         have V6_h : M.Var w6 (w.heap.size + 1 + 1) #[.int .i64 h.nx, .int .i64 h.ny, .int .i64 h.d] := M.var_rw (by (repeat (first | (with_reducible assumption) | (with_reducible apply M.var_set45) | (with_reducible apply M.var_setBd) | (with_reducible apply M.var_setV) | (with_reducible refine M.var_alloc' _ _ _ ?_; first | rfl | (focus (simp [go_sem]; done))) | (with_reducible refine M.Var.alloc ?_ _) | (with_reducible refine M.Var.drewN ?_ _) | (with_reducible refine M.Var.drew ?_) | (with_reducible refine M.Var.far ?_ _ _ ?hFar; case hFar => (first | omega | ((try simp [go_sem]) <;> omega))) | fail))) (by omega) hb
         have q6_h_0 : w6.cell? ⟨w.heap.size + 1 + 1, 0, none⟩ = some (.int .i64 h.nx) := V6_h.c 0 _ rfl
         have q6_h_1 : w6.cell? ⟨w.heap.size + 1 + 1, 1, none⟩ = some (.int .i64 h.ny) := V6_h.c 1 _ rfl
         have q6_h_2 : w6.cell? ⟨w.heap.size + 1 + 1, 2, none⟩ = some (.int .i64 h.d) := V6_h.c 2 _ rfl
         have f6_h := V6_h.2.2
         have L6_h := V6_h.lt
         have N6_h := Nat.ne_of_gt L6_h
         have M6_h := Nat.ne_of_lt L6_h
         have V6_r : M.Var w6 (w.heap.size + 1 + 1 + 1) #[.int .i64 0, .int .i64 0, .int .i64 0, .int .i64 0, .int .i64 0, .int .i64 0, .int .i64 0, .int .i64 0] := M.var_rw (by (repeat (first | (with_reducible assumption) | (with_reducible apply M.var_set45) | (with_reducible apply M.var_setBd) | (with_reducible apply M.var_setV) | (with_reducible refine M.var_alloc' _ _ _ ?_; first | rfl | (focus (simp [go_sem]; done))) | (with_reducible refine M.Var.alloc ?_ _) | (with_reducible refine M.Var.drewN ?_ _) | (with_reducible refine M.Var.drew ?_) | (with_reducible refine M.Var.far ?_ _ _ ?hFar; case hFar => (first | omega | ((try simp [go_sem]) <;> omega))) | fail))) (by omega) hb
         have q6_r_0 : w6.cell? ⟨w.heap.size + 1 + 1 + 1, 0, none⟩ = some (.int .i64 0) := V6_r.c 0 _ rfl
         have q6_r_1 : w6.cell? ⟨w.heap.size + 1 + 1 + 1, 1, none⟩ = some (.int .i64 0) := V6_r.c 1 _ rfl
         have q6_r_2 : w6.cell? ⟨w.heap.size + 1 + 1 + 1, 2, none⟩ = some (.int .i64 0) := V6_r.c 2 _ rfl
         have q6_r_3 : w6.cell? ⟨w.heap.size + 1 + 1 + 1, 3, none⟩ = some (.int .i64 0) := V6_r.c 3 _ rfl
         have q6_r_4 : w6.cell? ⟨w.heap.size + 1 + 1 + 1, 4, none⟩ = some (.int .i64 0) := V6_r.c 4 _ rfl
         have q6_r_5 : w6.cell? ⟨w.heap.size + 1 + 1 + 1, 5, none⟩ = some (.int .i64 0) := V6_r.c 5 _ rfl
         have q6_r_6 : w6.cell? ⟨w.heap.size + 1 + 1 + 1, 6, none⟩ = some (.int .i64 0) := V6_r.c 6 _ rfl
         have q6_r_7 : w6.cell? ⟨w.heap.size + 1 + 1 + 1, 7, none⟩ = some (.int .i64 0) := V6_r.c 7 _ rfl
         have f6_r := V6_r.2.2
         have L6_r := V6_r.lt
         have N6_r := Nat.ne_of_gt L6_r
         have M6_r := Nat.ne_of_lt L6_r
         have V6_s : M.Var w6 (w.heap.size + 1 + 1 + 1 + 1) #[.int .i64 0, .int .i64 0, .int .i64 0, .int .i64 0, .int .i64 0, .int .i64 0, .int .i64 0, .int .i64 0] := M.var_rw (by (repeat (first | (with_reducible assumption) | (with_reducible apply M.var_set45) | (with_reducible apply M.var_setBd) | (with_reducible apply M.var_setV) | (with_reducible refine M.var_alloc' _ _ _ ?_; first | rfl | (focus (simp [go_sem]; done))) | (with_reducible refine M.Var.alloc ?_ _) | (with_reducible refine M.Var.drewN ?_ _) | (with_reducible refine M.Var.drew ?_) | (with_reducible refine M.Var.far ?_ _ _ ?hFar; case hFar => (first | omega | ((try simp [go_sem]) <;> omega))) | fail))) (by omega) hb
         have q6_s_0 : w6.cell? ⟨w.heap.size + 1 + 1 + 1 + 1, 0, none⟩ = some (.int .i64 0) := V6_s.c 0 _ rfl
         have q6_s_1 : w6.cell? ⟨w.heap.size + 1 + 1 + 1 + 1, 1, none⟩ = some (.int .i64 0) := V6_s.c 1 _ rfl
         have q6_s_2 : w6.cell? ⟨w.heap.size + 1 + 1 + 1 + 1, 2, none⟩ = some (.int .i64 0) := V6_s.c 2 _ rfl
         have q6_s_3 : w6.cell? ⟨w.heap.size + 1 + 1 + 1 + 1, 3, none⟩ = some (.int .i64 0) := V6_s.c 3 _ rfl
         have q6_s_4 : w6.cell? ⟨w.heap.size + 1 + 1 + 1 + 1, 4, none⟩ = some (.int .i64 0) := V6_s.c 4 _ rfl
         have q6_s_5 : w6.cell? ⟨w.heap.size + 1 + 1 + 1 + 1, 5, none⟩ = some (.int .i64 0) := V6_s.c 5 _ rfl
         have q6_s_6 : w6.cell? ⟨w.heap.size + 1 + 1 + 1 + 1, 6, none⟩ = some (.int .i64 0) := V6_s.c 6 _ rfl
         have q6_s_7 : w6.cell? ⟨w.heap.size + 1 + 1 + 1 + 1, 7, none⟩ = some (.int .i64 0) := V6_s.c 7 _ rfl
         have f6_s := V6_s.2.2
         have L6_s := V6_s.lt
         have N6_s := Nat.ne_of_gt L6_s
         have M6_s := Nat.ne_of_lt L6_s
         have V6_sb : M.Var w6 (w4.heap.size) #[.int .i64 vx, .int .i64 vy] := M.var_rw (by (repeat (first | (with_reducible assumption) | (with_reducible apply M.var_set45) | (with_reducible apply M.var_setBd) | (with_reducible apply M.var_setV) | (with_reducible refine M.var_alloc' _ _ _ ?_; first | rfl | (focus (simp [go_sem]; done))) | (with_reducible refine M.Var.alloc ?_ _) | (with_reducible refine M.Var.drewN ?_ _) | (with_reducible refine M.Var.drew ?_) | (with_reducible refine M.Var.far ?_ _ _ ?hFar; case hFar => (first | omega | ((try simp [go_sem]) <;> omega))) | fail))) (by omega) hb
         have q6_sb_0 : w6.cell? ⟨w4.heap.size, 0, none⟩ = some (.int .i64 vx) := V6_sb.c 0 _ rfl
         have q6_sb_1 : w6.cell? ⟨w4.heap.size, 1, none⟩ = some (.int .i64 vy) := V6_sb.c 1 _ rfl
         have f6_sb := V6_sb.2.2
         have L6_sb := V6_sb.lt
         have N6_sb := Nat.ne_of_gt L6_sb
         have M6_sb := Nat.ne_of_lt L6_sb
         have V6_sa : M.Var w6 (w5.heap.size) #[.int .i64 ux, .int .i64 uy] := M.var_rw (by (repeat (first | (with_reducible assumption) | (with_reducible apply M.var_set45) | (with_reducible apply M.var_setBd) | (with_reducible apply M.var_setV) | (with_reducible refine M.var_alloc' _ _ _ ?_; first | rfl | (focus (simp [go_sem]; done))) | (with_reducible refine M.Var.alloc ?_ _) | (with_reducible refine M.Var.drewN ?_ _) | (with_reducible refine M.Var.drew ?_) | (with_reducible refine M.Var.far ?_ _ _ ?hFar; case hFar => (first | omega | ((try simp [go_sem]) <;> omega))) | fail))) (by omega) hb
         have q6_sa_0 : w6.cell? ⟨w5.heap.size, 0, none⟩ = some (.int .i64 ux) := V6_sa.c 0 _ rfl
         have q6_sa_1 : w6.cell? ⟨w5.heap.size, 1, none⟩ = some (.int .i64 uy) := V6_sa.c 1 _ rfl
         have f6_sa := V6_sa.2.2
         have L6_sa := V6_sa.lt
         have N6_sa := Nat.ne_of_gt L6_sa
         have M6_sa := Nat.ne_of_lt L6_sa
         clear V5_a f5_a q5_a_0 q5_a_1 q5_a_2 q5_a_3 q5_a_4 q5_a_5 q5_a_6 q5_a_7 V5_b f5_b q5_b_0 q5_b_1 q5_b_2 q5_b_3 q5_b_4 q5_b_5 q5_b_6 q5_b_7 V5_h f5_h q5_h_0 q5_h_1 q5_h_2 V5_r f5_r q5_r_0 q5_r_1 q5_r_2 q5_r_3 q5_r_4 q5_r_5 q5_r_6 q5_r_7 V5_s f5_s q5_s_0 q5_s_1 q5_s_2 q5_s_3 q5_s_4 q5_s_5 q5_s_6 q5_s_7 V5_sb f5_sb q5_sb_0 q5_sb_1 PC5 c5_pb f5_pb
         have HR6 := Lib.hid hr; clear hr
         have c6_pb := PC6.2.1; have f6_pb := PC6.2.2; have L6_pb := PC6.1; have N6_pb := Nat.ne_of_gt L6_pb; have M6_pb := Nat.ne_of_lt L6_pb
         have HG6 := Lib.hid G6; clear G6 hb)
      | (go_at_call 80; refine (C9.out e6 _ _ _ _ iqx iqy HH.out.nx HH.out.ny _ (by (repeat (first | (with_reducible assumption) | (with_reducible refine M.pcell_alloc ?_ _) | (with_reducible refine M.pcell_drewN ?_ _) | (with_reducible refine M.pcell_drew ?_) | (with_reducible refine M.pcell_far ?_ _ _ ?hFar; case hFar => (first | omega | ((try simp [go_sem]) <;> omega))) | fail)))).mono ?_; rintro en w7 ⟨v, e7, rfl, iv, hr, hb⟩
         have G7 : M.RW pb e7 w w7 := M.rw_step (by have G := HG6.out; (repeat (with_reducible refine M.Below.drewN ?_ _)); go_grown) hb hpb
         have S7 : w.heap.size ≤ w7.heap.size := by have := G7.size; rwa [M.setCell_size] at this
         have PC7 : M.PCell w7 pb e7 := M.pcell_behind hb (e := e6) (by (repeat (first | (with_reducible assumption) | (with_reducible refine M.pcell_alloc ?_ _) | (with_reducible refine M.pcell_drewN ?_ _) | (with_reducible refine M.pcell_drew ?_) | (with_reducible refine M.pcell_far ?_ _ _ ?hFar; case hFar => (first | omega | ((try simp [go_sem]) <;> omega))) | fail)))
         have V7_a : M.Var w7 (w.heap.size) #[.int .i64 a.shape, .int .i64 a.sx, .int .i64 a.sy, .int .i64 a.mass, .int .i64 a.px, .int .i64 a.py, .int .i64 a.mx, .int .i64 a.my] := M.var_rw (by (repeat (first | (with_reducible assumption) | (with_reducible apply M.var_set45) | (with_reducible apply M.var_setBd) | (with_reducible apply M.var_setV) | (with_reducible refine M.var_alloc' _ _ _ ?_; first | rfl | (focus (simp [go_sem]; done))) | (with_reducible refine M.Var.alloc ?_ _) | (with_reducible refine M.Var.drewN ?_ _) | (with_reducible refine M.Var.drew ?_) | (with_reducible refine M.Var.far ?_ _ _ ?hFar; case hFar => (first | omega | ((try simp [go_sem]) <;> omega))) | fail))) (by omega) hb
         have q7_a_0 : w7.cell? ⟨w.heap.size, 0, none⟩ = some (.int .i64 a.shape) := V7_a.c 0 _ rfl
         have q7_a_1 : w7.cell? ⟨w.heap.size, 1, none⟩ = some (.int .i64 a.sx) := V7_a.c 1 _ rfl
         have q7_a_2 : w7.cell? ⟨w.heap.size, 2, none⟩ = some (.int .i64 a.sy) := V7_a.c 2 _ rfl
         have q7_a_3 : w7.cell? ⟨w.heap.size, 3, none⟩ = some (.int .i64 a.mass) := V7_a.c 3 _ rfl
         have q7_a_4 : w7.cell? ⟨w.heap.size, 4, none⟩ = some (.int .i64 a.px) := V7_a.c 4 _ rfl
         have q7_a_5 : w7.cell? ⟨w.heap.size, 5, none⟩ = some (.int .i64 a.py) := V7_a.c 5 _ rfl
         have q7_a_6 : w7.cell? ⟨w.heap.size, 6, none⟩ = some (.int .i64 a.mx) := V7_a.c 6 _ rfl
         have q7_a_7 : w7.cell? ⟨w.heap.size, 7, none⟩ = some (.int .i64 a.my) := V7_a.c 7 _ rfl
         have f7_a := V7_a.2.2
         have L7_a := V7_a.lt
         have N7_a := Nat.ne_of_gt L7_a
         have M7_a := Nat.ne_of_lt L7_a
         have V7_b : M.Var w7 (w.heap.size + 1) #[.int .i64 b.shape, .int .i64 b.sx, .int .i64 b.sy, .int .i64 b.mass, .int .i64 b.px, .int .i64 b.py, .int .i64 b.mx, .int .i64 b.my] := M.var_rw (by (repeat (first | (with_reducible assumption) | (with_reducible apply M.var_set45) | (with_reducible apply M.var_setBd) | (with_reducible apply M.var_setV) | (with_reducible refine M.var_alloc' _ _ _ ?_; first | rfl | (focus (simp [go_sem]; done))) | (with_reducible refine M.Var.alloc ?_ _) | (with_reducible refine M.Var.drewN ?_ _) | (with_reducible refine M.Var.drew ?_) | (with_reducible refine M.Var.far ?_ _ _ ?hFar; case hFar => (first | omega | ((try simp [go_sem]) <;> omega))) | fail))) (by omega) hb
         have q7_b_0 : w7.cell? ⟨w.heap.size + 1, 0, none⟩ = some (.int .i64 b.shape) := V7_b.c 0 _ rfl
         have q7_b_1 : w7.cell? ⟨w.heap.size + 1, 1, none⟩ = some (.int .i64 b.sx) := V7_b.c 1 _ rfl
         have q7_b_2 : w7.cell? ⟨w.heap.size + 1, 2, none⟩ = some (.int .i64 b.sy) := V7_b.c 2 _ rfl
         have q7_b_3 : w7.cell? ⟨w.heap.size + 1, 3, none⟩ = some (.int .i64 b.mass) := V7_b.c 3 _ rfl
         have q7_b_4 : w7.cell? ⟨w.heap.size + 1, 4, none⟩ = some (.int .i64 b.px) := V7_b.c 4 _ rfl
         have q7_b_5 : w7.cell? ⟨w.heap.size + 1, 5, none⟩ = some (.int .i64 b.py) := V7_b.c 5 _ rfl
         have q7_b_6 : w7.cell? ⟨w.heap.size + 1, 6, none⟩ = some (.int .i64 b.mx) := V7_b.c 6 _ rfl
         have q7_b_7 : w7.cell? ⟨w.heap.size + 1, 7, none⟩ = some (.int .i64 b.my) := V7_b.c 7 _ rfl
         have f7_b := V7_b.2.2
         have L7_b := V7_b.lt
         have N7_b := Nat.ne_of_gt L7_b
         have M7_b := Nat.ne_of_lt L7_b
         have V7_h : M.Var w7 (w.heap.size + 1 + 1) #[.int .i64 h.nx, .int .i64 h.ny, .int .i64 h.d] := M.var_rw (by (repeat (first | (with_reducible assumption) | (with_reducible apply M.var_set45) | (with_reducible apply M.var_setBd) | (with_reducible apply M.var_setV) | (with_reducible refine M.var_alloc' _ _ _ ?_; first | rfl | (focus (simp [go_sem]; done))) | (with_reducible refine M.Var.alloc ?_ _) | (with_reducible refine M.Var.drewN ?_ _) | (with_reducible refine M.Var.drew ?_) | (with_reducible refine M.Var.far ?_ _ _ ?hFar; case hFar => (first | omega | ((try simp [go_sem]) <;> omega))) | fail))) (by omega) hb
         have q7_h_0 : w7.cell? ⟨w.heap.size + 1 + 1, 0, none⟩ = some (.int .i64 h.nx) := V7_h.c 0 _ rfl
         have q7_h_1 : w7.cell? ⟨w.heap.size + 1 + 1, 1, none⟩ = some (.int .i64 h.ny) := V7_h.c 1 _ rfl
         have q7_h_2 : w7.cell? ⟨w.heap.size + 1 + 1, 2, none⟩ = some (.int .i64 h.d) := V7_h.c 2 _ rfl
         have f7_h := V7_h.2.2
         have L7_h := V7_h.lt
         have N7_h := Nat.ne_of_gt L7_h
         have M7_h := Nat.ne_of_lt L7_h
         have V7_r : M.Var w7 (w.heap.size + 1 + 1 + 1) #[.int .i64 0, .int .i64 0, .int .i64 0, .int .i64 0, .int .i64 0, .int .i64 0, .int .i64 0, .int .i64 0] := M.var_rw (by (repeat (first | (with_reducible assumption) | (with_reducible apply M.var_set45) | (with_reducible apply M.var_setBd) | (with_reducible apply M.var_setV) | (with_reducible refine M.var_alloc' _ _ _ ?_; first | rfl | (focus (simp [go_sem]; done))) | (with_reducible refine M.Var.alloc ?_ _) | (with_reducible refine M.Var.drewN ?_ _) | (with_reducible refine M.Var.drew ?_) | (with_reducible refine M.Var.far ?_ _ _ ?hFar; case hFar => (first | omega | ((try simp [go_sem]) <;> omega))) | fail))) (by omega) hb
         have q7_r_0 : w7.cell? ⟨w.heap.size + 1 + 1 + 1, 0, none⟩ = some (.int .i64 0) := V7_r.c 0 _ rfl
         have q7_r_1 : w7.cell? ⟨w.heap.size + 1 + 1 + 1, 1, none⟩ = some (.int .i64 0) := V7_r.c 1 _ rfl
         have q7_r_2 : w7.cell? ⟨w.heap.size + 1 + 1 + 1, 2, none⟩ = some (.int .i64 0) := V7_r.c 2 _ rfl
         have q7_r_3 : w7.cell? ⟨w.heap.size + 1 + 1 + 1, 3, none⟩ = some (.int .i64 0) := V7_r.c 3 _ rfl
         have q7_r_4 : w7.cell? ⟨w.heap.size + 1 + 1 + 1, 4, none⟩ = some (.int .i64 0) := V7_r.c 4 _ rfl
         have q7_r_5 : w7.cell? ⟨w.heap.size + 1 + 1 + 1, 5, none⟩ = some (.int .i64 0) := V7_r.c 5 _ rfl
         have q7_r_6 : w7.cell? ⟨w.heap.size + 1 + 1 + 1, 6, none⟩ = some (.int .i64 0) := V7_r.c 6 _ rfl
         have q7_r_7 : w7.cell? ⟨w.heap.size + 1 + 1 + 1, 7, none⟩ = some (.int .i64 0) := V7_r.c 7 _ rfl
         have f7_r := V7_r.2.2
         have L7_r := V7_r.lt
         have N7_r := Nat.ne_of_gt L7_r
         have M7_r := Nat.ne_of_lt L7_r
         have V7_s : M.Var w7 (w.heap.size + 1 + 1 + 1 + 1) #[.int .i64 0, .int .i64 0, .int .i64 0, .int .i64 0, .int .i64 0, .int .i64 0, .int .i64 0, .int .i64 0] := M.var_rw (by (repeat (first | (with_reducible assumption) | (with_reducible apply M.var_set45) | (with_reducible apply M.var_setBd) | (with_reducible apply M.var_setV) | (with_reducible refine M.var_alloc' _ _ _ ?_; first | rfl | (focus (simp [go_sem]; done))) | (with_reducible refine M.Var.alloc ?_ _) | (with_reducible refine M.Var.drewN ?_ _) | (with_reducible refine M.Var.drew ?_) | (with_reducible refine M.Var.far ?_ _ _ ?hFar; case hFar => (first | omega | ((try simp [go_sem]) <;> omega))) | fail))) (by omega) hb
         have q7_s_0 : w7.cell? ⟨w.heap.size + 1 + 1 + 1 + 1, 0, none⟩ = some (.int .i64 0) := V7_s.c 0 _ rfl
         have q7_s_1 : w7.cell? ⟨w.heap.size + 1 + 1 + 1 + 1, 1, none⟩ = some (.int .i64 0) := V7_s.c 1 _ rfl
         have q7_s_2 : w7.cell? ⟨w.heap.size + 1 + 1 + 1 + 1, 2, none⟩ = some (.int .i64 0) := V7_s.c 2 _ rfl
         have q7_s_3 : w7.cell? ⟨w.heap.size + 1 + 1 + 1 + 1, 3, none⟩ = some (.int .i64 0) := V7_s.c 3 _ rfl
         have q7_s_4 : w7.cell? ⟨w.heap.size + 1 + 1 + 1 + 1, 4, none⟩ = some (.int .i64 0) := V7_s.c 4 _ rfl
         have q7_s_5 : w7.cell? ⟨w.heap.size + 1 + 1 + 1 + 1, 5, none⟩ = some (.int .i64 0) := V7_s.c 5 _ rfl
         have q7_s_6 : w7.cell? ⟨w.heap.size + 1 + 1 + 1 + 1, 6, none⟩ = some (.int .i64 0) := V7_s.c 6 _ rfl
         have q7_s_7 : w7.cell? ⟨w.heap.size + 1 + 1 + 1 + 1, 7, none⟩ = some (.int .i64 0) := V7_s.c 7 _ rfl
         have f7_s := V7_s.2.2
         have L7_s := V7_s.lt
         have N7_s := Nat.ne_of_gt L7_s
         have M7_s := Nat.ne_of_lt L7_s
         have V7_sb : M.Var w7 (w4.heap.size) #[.int .i64 vx, .int .i64 vy] := M.var_rw (by (repeat (first | (with_reducible assumption) | (with_reducible apply M.var_set45) | (with_reducible apply M.var_setBd) | (with_reducible apply M.var_setV) | (with_reducible refine M.var_alloc' _ _ _ ?_; first | rfl | (focus (simp [go_sem]; done))) | (with_reducible refine M.Var.alloc ?_ _) | (with_reducible refine M.Var.drewN ?_ _) | (with_reducible refine M.Var.drew ?_) | (with_reducible refine M.Var.far ?_ _ _ ?hFar; case hFar => (first | omega | ((try simp [go_sem]) <;> omega))) | fail))) (by omega) hb
         have q7_sb_0 : w7.cell? ⟨w4.heap.size, 0, none⟩ = some (.int .i64 vx) := V7_sb.c 0 _ rfl
         have q7_sb_1 : w7.cell? ⟨w4.heap.size, 1, none⟩ = some (.int .i64 vy) := V7_sb.c 1 _ rfl
         have f7_sb := V7_sb.2.2
         have L7_sb := V7_sb.lt
         have N7_sb := Nat.ne_of_gt L7_sb
         have M7_sb := Nat.ne_of_lt L7_sb
         have V7_sa : M.Var w7 (w5.heap.size) #[.int .i64 ux, .int .i64 uy] := M.var_rw (by (repeat (first | (with_reducible assumption) | (with_reducible apply M.var_set45) | (with_reducible apply M.var_setBd) | (with_reducible apply M.var_setV) | (with_reducible refine M.var_alloc' _ _ _ ?_; first | rfl | (focus (simp [go_sem]; done))) | (with_reducible refine M.Var.alloc ?_ _) | (with_reducible refine M.Var.drewN ?_ _) | (with_reducible refine M.Var.drew ?_) | (with_reducible refine M.Var.far ?_ _ _ ?hFar; case hFar => (first | omega | ((try simp [go_sem]) <;> omega))) | fail))) (by omega) hb
         have q7_sa_0 : w7.cell? ⟨w5.heap.size, 0, none⟩ = some (.int .i64 ux) := V7_sa.c 0 _ rfl
         have q7_sa_1 : w7.cell? ⟨w5.heap.size, 1, none⟩ = some (.int .i64 uy) := V7_sa.c 1 _ rfl
         have f7_sa := V7_sa.2.2
         have L7_sa := V7_sa.lt
         have N7_sa := Nat.ne_of_gt L7_sa
         have M7_sa := Nat.ne_of_lt L7_sa
         clear V6_a f6_a L6_a N6_a M6_a q6_a_0 q6_a_1 q6_a_2 q6_a_3 q6_a_4 q6_a_5 q6_a_6 q6_a_7 V6_b f6_b L6_b N6_b M6_b q6_b_0 q6_b_1 q6_b_2 q6_b_3 q6_b_4 q6_b_5 q6_b_6 q6_b_7 V6_h f6_h L6_h N6_h M6_h q6_h_0 q6_h_1 q6_h_2 V6_r f6_r L6_r N6_r M6_r q6_r_0 q6_r_1 q6_r_2 q6_r_3 q6_r_4 q6_r_5 q6_r_6 q6_r_7 V6_s f6_s L6_s N6_s M6_s q6_s_0 q6_s_1 q6_s_2 q6_s_3 q6_s_4 q6_s_5 q6_s_6 q6_s_7 V6_sb f6_sb L6_sb N6_sb M6_sb q6_sb_0 q6_sb_1 V6_sa f6_sa L6_sa N6_sa M6_sa q6_sa_0 q6_sa_1 PC6 c6_pb f6_pb L6_pb N6_pb M6_pb
         have HR7 := Lib.hid hr; clear hr
         have c7_pb := PC7.2.1; have f7_pb := PC7.2.2; have L7_pb := PC7.1; have N7_pb := Nat.ne_of_gt L7_pb; have M7_pb := Nat.ne_of_lt L7_pb
         have HG7 := Lib.hid G7; clear G7 hb)
      )
    go_upto_if 48 with (with_reducible refine M.stopPost ?_)
    have HV := Lib.hid (rel_bind HR4.out (rel_bind HR5.out (rel_bind HR6.out HR7.out)) : M.Rel e3 (speedK a b (h.nx, h.ny)) v e7)
    have HM := Lib.hid (show e7 = 0 → lightX a = .ok la ∧ lightX b = .ok lb from fun h0 => HL.out (rel_zero HV.out h0).1)
    go_cut [16, 17] from 48 (fun s16 s17 wc => ∃ (c1 : Bd) (c2 : Bd) (ed : Int), c1.ok ∧ c2.ok ∧ Hid (M.Rel e7 (bounceX a b (h.nx, h.ny) k v) (c1, c2) ed) ∧ Hid (ed = 0 → lightX c1 = .ok la ∧ lightX c2 = .ok lb) ∧ Hid (M.RW pb ed w wc) ∧ M.PCell wc pb ed ∧ M.Var wc (w.heap.size) #[.int .i64 c1.shape, .int .i64 c1.sx, .int .i64 c1.sy, .int .i64 c1.mass, .int .i64 c1.px, .int .i64 c1.py, .int .i64 c1.mx, .int .i64 c1.my] ∧ M.Var wc (w.heap.size + 1) #[.int .i64 c2.shape, .int .i64 c2.sx, .int .i64 c2.sy, .int .i64 c2.mass, .int .i64 c2.px, .int .i64 c2.py, .int .i64 c2.mx, .int .i64 c2.my] ∧ M.Var wc (w.heap.size + 1 + 1) #[.int .i64 h.nx, .int .i64 h.ny, .int .i64 h.d] ∧ M.Var wc (w.heap.size + 1 + 1 + 1) #[.int .i64 0, .int .i64 0, .int .i64 0, .int .i64 0, .int .i64 0, .int .i64 0, .int .i64 0, .int .i64 0] ∧ M.Var wc (w.heap.size + 1 + 1 + 1 + 1) #[.int .i64 0, .int .i64 0, .int .i64 0, .int .i64 0, .int .i64 0, .int .i64 0, .int .i64 0, .int .i64 0])
    case first =>
      go_wp2_with (with_reducible refine M.stopPost ?_)
      · have hv0 : v < 0 := by assumption
        (with_reducible refine (CP.out e7 _ _ iv z2 _ (by (repeat (first | (with_reducible assumption) | (with_reducible refine M.pcell_alloc ?_ _) | (with_reducible refine M.pcell_drewN ?_ _) | (with_reducible refine M.pcell_drew ?_) | (with_reducible refine M.pcell_far ?_ _ _ ?hFar; case hFar => (first | omega | ((try simp [go_sem]) <;> omega))) | fail)))).mono ?_); rintro en w8 ⟨xp, e8, rfl, ixp, hr, hb⟩
        have G8 : M.RW pb e8 w w8 := M.rw_step (by have G := HG7.out; (repeat (with_reducible refine M.Below.drewN ?_ _)); go_grown) hb hpb
        have S8 : w.heap.size ≤ w8.heap.size := by have := G8.size; rwa [M.setCell_size] at this
        have PC8 : M.PCell w8 pb e8 := M.pcell_behind hb (e := e7) (by (repeat (first | (with_reducible assumption) | (with_reducible refine M.pcell_alloc ?_ _) | (with_reducible refine M.pcell_drewN ?_ _) | (with_reducible refine M.pcell_drew ?_) | (with_reducible refine M.pcell_far ?_ _ _ ?hFar; case hFar => (first | omega | ((try simp [go_sem]) <;> omega))) | fail)))
        have V8_a : M.Var w8 (w.heap.size) #[.int .i64 a.shape, .int .i64 a.sx, .int .i64 a.sy, .int .i64 a.mass, .int .i64 a.px, .int .i64 a.py, .int .i64 a.mx, .int .i64 a.my] := M.var_rw (by (repeat (first | (with_reducible assumption) | (with_reducible apply M.var_set45) | (with_reducible apply M.var_setBd) | (with_reducible apply M.var_setV) | (with_reducible refine M.var_alloc' _ _ _ ?_; first | rfl | (focus (simp [go_sem]; done))) | (with_reducible refine M.Var.alloc ?_ _) | (with_reducible refine M.Var.drewN ?_ _) | (with_reducible refine M.Var.drew ?_) | (with_reducible refine M.Var.far ?_ _ _ ?hFar; case hFar => (first | omega | ((try simp [go_sem]) <;> omega))) | fail))) (by omega) hb
        have q8_a_0 : w8.cell? ⟨w.heap.size, 0, none⟩ = some (.int .i64 a.shape) := V8_a.c 0 _ rfl
        have q8_a_1 : w8.cell? ⟨w.heap.size, 1, none⟩ = some (.int .i64 a.sx) := V8_a.c 1 _ rfl
        have q8_a_2 : w8.cell? ⟨w.heap.size, 2, none⟩ = some (.int .i64 a.sy) := V8_a.c 2 _ rfl
        have q8_a_3 : w8.cell? ⟨w.heap.size, 3, none⟩ = some (.int .i64 a.mass) := V8_a.c 3 _ rfl
        have q8_a_4 : w8.cell? ⟨w.heap.size, 4, none⟩ = some (.int .i64 a.px) := V8_a.c 4 _ rfl
        have q8_a_5 : w8.cell? ⟨w.heap.size, 5, none⟩ = some (.int .i64 a.py) := V8_a.c 5 _ rfl
        have q8_a_6 : w8.cell? ⟨w.heap.size, 6, none⟩ = some (.int .i64 a.mx) := V8_a.c 6 _ rfl
        have q8_a_7 : w8.cell? ⟨w.heap.size, 7, none⟩ = some (.int .i64 a.my) := V8_a.c 7 _ rfl
        have f8_a := V8_a.2.2
        have L8_a := V8_a.lt
        have N8_a := Nat.ne_of_gt L8_a
        have M8_a := Nat.ne_of_lt L8_a
        have V8_b : M.Var w8 (w.heap.size + 1) #[.int .i64 b.shape, .int .i64 b.sx, .int .i64 b.sy, .int .i64 b.mass, .int .i64 b.px, .int .i64 b.py, .int .i64 b.mx, .int .i64 b.my] := M.var_rw (by (repeat (first | (with_reducible assumption) | (with_reducible apply M.var_set45) | (with_reducible apply M.var_setBd) | (with_reducible apply M.var_setV) | (with_reducible refine M.var_alloc' _ _ _ ?_; first | rfl | (focus (simp [go_sem]; done))) | (with_reducible refine M.Var.alloc ?_ _) | (with_reducible refine M.Var.drewN ?_ _) | (with_reducible refine M.Var.drew ?_) | (with_reducible refine M.Var.far ?_ _ _ ?hFar; case hFar => (first | omega | ((try simp [go_sem]) <;> omega))) | fail))) (by omega) hb
        have q8_b_0 : w8.cell? ⟨w.heap.size + 1, 0, none⟩ = some (.int .i64 b.shape) := V8_b.c 0 _ rfl
        have q8_b_1 : w8.cell? ⟨w.heap.size + 1, 1, none⟩ = some (.int .i64 b.sx) := V8_b.c 1 _ rfl
        have q8_b_2 : w8.cell? ⟨w.heap.size + 1, 2, none⟩ = some (.int .i64 b.sy) := V8_b.c 2 _ rfl
        have q8_b_3 : w8.cell? ⟨w.heap.size + 1, 3, none⟩ = some (.int .i64 b.mass) := V8_b.c 3 _ rfl
        have q8_b_4 : w8.cell? ⟨w.heap.size + 1, 4, none⟩ = some (.int .i64 b.px) := V8_b.c 4 _ rfl
        have q8_b_5 : w8.cell? ⟨w.heap.size + 1, 5, none⟩ = some (.int .i64 b.py) := V8_b.c 5 _ rfl
        have q8_b_6 : w8.cell? ⟨w.heap.size + 1, 6, none⟩ = some (.int .i64 b.mx) := V8_b.c 6 _ rfl
        have q8_b_7 : w8.cell? ⟨w.heap.size + 1, 7, none⟩ = some (.int .i64 b.my) := V8_b.c 7 _ rfl
        have f8_b := V8_b.2.2
        have L8_b := V8_b.lt
        have N8_b := Nat.ne_of_gt L8_b
        have M8_b := Nat.ne_of_lt L8_b
        have V8_h : M.Var w8 (w.heap.size + 1 + 1) #[.int .i64 h.nx, .int .i64 h.ny, .int .i64 h.d] := M.var_rw (by (repeat (first | (with_reducible assumption) | (with_reducible apply M.var_set45) | (with_reducible apply M.var_setBd) | (with_reducible apply M.var_setV) | (with_reducible refine M.var_alloc' _ _ _ ?_; first | rfl | (focus (simp [go_sem]; done))) | (with_reducible refine M.Var.alloc ?_ _) | (with_reducible refine M.Var.drewN ?_ _) | (with_reducible refine M.Var.drew ?_) | (with_reducible refine M.Var.far ?_ _ _ ?hFar; case hFar => (first | omega | ((try simp [go_sem]) <;> omega))) | fail))) (by omega) hb
        have q8_h_0 : w8.cell? ⟨w.heap.size + 1 + 1, 0, none⟩ = some (.int .i64 h.nx) := V8_h.c 0 _ rfl
        have q8_h_1 : w8.cell? ⟨w.heap.size + 1 + 1, 1, none⟩ = some (.int .i64 h.ny) := V8_h.c 1 _ rfl
        have q8_h_2 : w8.cell? ⟨w.heap.size + 1 + 1, 2, none⟩ = some (.int .i64 h.d) := V8_h.c 2 _ rfl
        have f8_h := V8_h.2.2
        have L8_h := V8_h.lt
        have N8_h := Nat.ne_of_gt L8_h
        have M8_h := Nat.ne_of_lt L8_h
        have V8_r : M.Var w8 (w.heap.size + 1 + 1 + 1) #[.int .i64 0, .int .i64 0, .int .i64 0, .int .i64 0, .int .i64 0, .int .i64 0, .int .i64 0, .int .i64 0] := M.var_rw (by (repeat (first | (with_reducible assumption) | (with_reducible apply M.var_set45) | (with_reducible apply M.var_setBd) | (with_reducible apply M.var_setV) | (with_reducible refine M.var_alloc' _ _ _ ?_; first | rfl | (focus (simp [go_sem]; done))) | (with_reducible refine M.Var.alloc ?_ _) | (with_reducible refine M.Var.drewN ?_ _) | (with_reducible refine M.Var.drew ?_) | (with_reducible refine M.Var.far ?_ _ _ ?hFar; case hFar => (first | omega | ((try simp [go_sem]) <;> omega))) | fail))) (by omega) hb
        have q8_r_0 : w8.cell? ⟨w.heap.size + 1 + 1 + 1, 0, none⟩ = some (.int .i64 0) := V8_r.c 0 _ rfl
        have q8_r_1 : w8.cell? ⟨w.heap.size + 1 + 1 + 1, 1, none⟩ = some (.int .i64 0) := V8_r.c 1 _ rfl
        have q8_r_2 : w8.cell? ⟨w.heap.size + 1 + 1 + 1, 2, none⟩ = some (.int .i64 0) := V8_r.c 2 _ rfl
        have q8_r_3 : w8.cell? ⟨w.heap.size + 1 + 1 + 1, 3, none⟩ = some (.int .i64 0) := V8_r.c 3 _ rfl
        have q8_r_4 : w8.cell? ⟨w.heap.size + 1 + 1 + 1, 4, none⟩ = some (.int .i64 0) := V8_r.c 4 _ rfl
        have q8_r_5 : w8.cell? ⟨w.heap.size + 1 + 1 + 1, 5, none⟩ = some (.int .i64 0) := V8_r.c 5 _ rfl
        have q8_r_6 : w8.cell? ⟨w.heap.size + 1 + 1 + 1, 6, none⟩ = some (.int .i64 0) := V8_r.c 6 _ rfl
        have q8_r_7 : w8.cell? ⟨w.heap.size + 1 + 1 + 1, 7, none⟩ = some (.int .i64 0) := V8_r.c 7 _ rfl
        have f8_r := V8_r.2.2
        have L8_r := V8_r.lt
        have N8_r := Nat.ne_of_gt L8_r
        have M8_r := Nat.ne_of_lt L8_r
        have V8_s : M.Var w8 (w.heap.size + 1 + 1 + 1 + 1) #[.int .i64 0, .int .i64 0, .int .i64 0, .int .i64 0, .int .i64 0, .int .i64 0, .int .i64 0, .int .i64 0] := M.var_rw (by (repeat (first | (with_reducible assumption) | (with_reducible apply M.var_set45) | (with_reducible apply M.var_setBd) | (with_reducible apply M.var_setV) | (with_reducible refine M.var_alloc' _ _ _ ?_; first | rfl | (focus (simp [go_sem]; done))) | (with_reducible refine M.Var.alloc ?_ _) | (with_reducible refine M.Var.drewN ?_ _) | (with_reducible refine M.Var.drew ?_) | (with_reducible refine M.Var.far ?_ _ _ ?hFar; case hFar => (first | omega | ((try simp [go_sem]) <;> omega))) | fail))) (by omega) hb
        have q8_s_0 : w8.cell? ⟨w.heap.size + 1 + 1 + 1 + 1, 0, none⟩ = some (.int .i64 0) := V8_s.c 0 _ rfl
        have q8_s_1 : w8.cell? ⟨w.heap.size + 1 + 1 + 1 + 1, 1, none⟩ = some (.int .i64 0) := V8_s.c 1 _ rfl
        have q8_s_2 : w8.cell? ⟨w.heap.size + 1 + 1 + 1 + 1, 2, none⟩ = some (.int .i64 0) := V8_s.c 2 _ rfl
        have q8_s_3 : w8.cell? ⟨w.heap.size + 1 + 1 + 1 + 1, 3, none⟩ = some (.int .i64 0) := V8_s.c 3 _ rfl
        have q8_s_4 : w8.cell? ⟨w.heap.size + 1 + 1 + 1 + 1, 4, none⟩ = some (.int .i64 0) := V8_s.c 4 _ rfl
        have q8_s_5 : w8.cell? ⟨w.heap.size + 1 + 1 + 1 + 1, 5, none⟩ = some (.int .i64 0) := V8_s.c 5 _ rfl
        have q8_s_6 : w8.cell? ⟨w.heap.size + 1 + 1 + 1 + 1, 6, none⟩ = some (.int .i64 0) := V8_s.c 6 _ rfl
        have q8_s_7 : w8.cell? ⟨w.heap.size + 1 + 1 + 1 + 1, 7, none⟩ = some (.int .i64 0) := V8_s.c 7 _ rfl
        have f8_s := V8_s.2.2
        have L8_s := V8_s.lt
        have N8_s := Nat.ne_of_gt L8_s
        have M8_s := Nat.ne_of_lt L8_s
        clear V7_a f7_a L7_a N7_a M7_a q7_a_0 q7_a_1 q7_a_2 q7_a_3 q7_a_4 q7_a_5 q7_a_6 q7_a_7 V7_b f7_b L7_b N7_b M7_b q7_b_0 q7_b_1 q7_b_2 q7_b_3 q7_b_4 q7_b_5 q7_b_6 q7_b_7 V7_h f7_h L7_h N7_h M7_h q7_h_0 q7_h_1 q7_h_2 V7_r f7_r L7_r N7_r M7_r q7_r_0 q7_r_1 q7_r_2 q7_r_3 q7_r_4 q7_r_5 q7_r_6 q7_r_7 V7_s f7_s L7_s N7_s M7_s q7_s_0 q7_s_1 q7_s_2 q7_s_3 q7_s_4 q7_s_5 q7_s_6 q7_s_7 V7_sb f7_sb L7_sb N7_sb M7_sb q7_sb_0 q7_sb_1 V7_sa f7_sa L7_sa N7_sa M7_sa q7_sa_0 q7_sa_1 PC7 c7_pb f7_pb L7_pb N7_pb M7_pb
        have HR8 := Lib.hid hr; clear hr
        have c8_pb := PC8.2.1; have f8_pb := PC8.2.2; have L8_pb := PC8.1; have N8_pb := Nat.ne_of_gt L8_pb; have M8_pb := Nat.ne_of_lt L8_pb
        have HG8 := Lib.hid G8; clear G8 hb
        go_wp2_with (with_reducible refine M.stopPost ?_)
        (with_reducible refine (C5.out e8 _ _ iv ixp _ (by (repeat (first | (with_reducible assumption) | (with_reducible refine M.pcell_alloc ?_ _) | (with_reducible refine M.pcell_drewN ?_ _) | (with_reducible refine M.pcell_drew ?_) | (with_reducible refine M.pcell_far ?_ _ _ ?hFar; case hFar => (first | omega | ((try simp [go_sem]) <;> omega))) | fail)))).mono ?_); rintro en w9 ⟨xt, e9, rfl, ixt, hr, hb⟩
        have G9 : M.RW pb e9 w w9 := M.rw_step (by have G := HG8.out; (repeat (with_reducible refine M.Below.drewN ?_ _)); go_grown) hb hpb
        have S9 : w.heap.size ≤ w9.heap.size := by have := G9.size; rwa [M.setCell_size] at this
        have PC9 : M.PCell w9 pb e9 := M.pcell_behind hb (e := e8) (by (repeat (first | (with_reducible assumption) | (with_reducible refine M.pcell_alloc ?_ _) | (with_reducible refine M.pcell_drewN ?_ _) | (with_reducible refine M.pcell_drew ?_) | (with_reducible refine M.pcell_far ?_ _ _ ?hFar; case hFar => (first | omega | ((try simp [go_sem]) <;> omega))) | fail)))
        have V9_a : M.Var w9 (w.heap.size) #[.int .i64 a.shape, .int .i64 a.sx, .int .i64 a.sy, .int .i64 a.mass, .int .i64 a.px, .int .i64 a.py, .int .i64 a.mx, .int .i64 a.my] := M.var_rw (by (repeat (first | (with_reducible assumption) | (with_reducible apply M.var_set45) | (with_reducible apply M.var_setBd) | (with_reducible apply M.var_setV) | (with_reducible refine M.var_alloc' _ _ _ ?_; first | rfl | (focus (simp [go_sem]; done))) | (with_reducible refine M.Var.alloc ?_ _) | (with_reducible refine M.Var.drewN ?_ _) | (with_reducible refine M.Var.drew ?_) | (with_reducible refine M.Var.far ?_ _ _ ?hFar; case hFar => (first | omega | ((try simp [go_sem]) <;> omega))) | fail))) (by omega) hb
        have q9_a_0 : w9.cell? ⟨w.heap.size, 0, none⟩ = some (.int .i64 a.shape) := V9_a.c 0 _ rfl
        have q9_a_1 : w9.cell? ⟨w.heap.size, 1, none⟩ = some (.int .i64 a.sx) := V9_a.c 1 _ rfl
        have q9_a_2 : w9.cell? ⟨w.heap.size, 2, none⟩ = some (.int .i64 a.sy) := V9_a.c 2 _ rfl
        have q9_a_3 : w9.cell? ⟨w.heap.size, 3, none⟩ = some (.int .i64 a.mass) := V9_a.c 3 _ rfl
        have q9_a_4 : w9.cell? ⟨w.heap.size, 4, none⟩ = some (.int .i64 a.px) := V9_a.c 4 _ rfl
        have q9_a_5 : w9.cell? ⟨w.heap.size, 5, none⟩ = some (.int .i64 a.py) := V9_a.c 5 _ rfl
        have q9_a_6 : w9.cell? ⟨w.heap.size, 6, none⟩ = some (.int .i64 a.mx) := V9_a.c 6 _ rfl
        have q9_a_7 : w9.cell? ⟨w.heap.size, 7, none⟩ = some (.int .i64 a.my) := V9_a.c 7 _ rfl
        have f9_a := V9_a.2.2
        have L9_a := V9_a.lt
        have N9_a := Nat.ne_of_gt L9_a
        have M9_a := Nat.ne_of_lt L9_a
        have V9_b : M.Var w9 (w.heap.size + 1) #[.int .i64 b.shape, .int .i64 b.sx, .int .i64 b.sy, .int .i64 b.mass, .int .i64 b.px, .int .i64 b.py, .int .i64 b.mx, .int .i64 b.my] := M.var_rw (by (repeat (first | (with_reducible assumption) | (with_reducible apply M.var_set45) | (with_reducible apply M.var_setBd) | (with_reducible apply M.var_setV) | (with_reducible refine M.var_alloc' _ _ _ ?_; first | rfl | (focus (simp [go_sem]; done))) | (with_reducible refine M.Var.alloc ?_ _) | (with_reducible refine M.Var.drewN ?_ _) | (with_reducible refine M.Var.drew ?_) | (with_reducible refine M.Var.far ?_ _ _ ?hFar; case hFar => (first | omega | ((try simp [go_sem]) <;> omega))) | fail))) (by omega) hb
        have q9_b_0 : w9.cell? ⟨w.heap.size + 1, 0, none⟩ = some (.int .i64 b.shape) := V9_b.c 0 _ rfl
        have q9_b_1 : w9.cell? ⟨w.heap.size + 1, 1, none⟩ = some (.int .i64 b.sx) := V9_b.c 1 _ rfl
        have q9_b_2 : w9.cell? ⟨w.heap.size + 1, 2, none⟩ = some (.int .i64 b.sy) := V9_b.c 2 _ rfl
        have q9_b_3 : w9.cell? ⟨w.heap.size + 1, 3, none⟩ = some (.int .i64 b.mass) := V9_b.c 3 _ rfl
        have q9_b_4 : w9.cell? ⟨w.heap.size + 1, 4, none⟩ = some (.int .i64 b.px) := V9_b.c 4 _ rfl
        have q9_b_5 : w9.cell? ⟨w.heap.size + 1, 5, none⟩ = some (.int .i64 b.py) := V9_b.c 5 _ rfl
        have q9_b_6 : w9.cell? ⟨w.heap.size + 1, 6, none⟩ = some (.int .i64 b.mx) := V9_b.c 6 _ rfl
        have q9_b_7 : w9.cell? ⟨w.heap.size + 1, 7, none⟩ = some (.int .i64 b.my) := V9_b.c 7 _ rfl
        have f9_b := V9_b.2.2
        have L9_b := V9_b.lt
        have N9_b := Nat.ne_of_gt L9_b
        have M9_b := Nat.ne_of_lt L9_b
        have V9_h : M.Var w9 (w.heap.size + 1 + 1) #[.int .i64 h.nx, .int .i64 h.ny, .int .i64 h.d] := M.var_rw (by (repeat (first | (with_reducible assumption) | (with_reducible apply M.var_set45) | (with_reducible apply M.var_setBd) | (with_reducible apply M.var_setV) | (with_reducible refine M.var_alloc' _ _ _ ?_; first | rfl | (focus (simp [go_sem]; done))) | (with_reducible refine M.Var.alloc ?_ _) | (with_reducible refine M.Var.drewN ?_ _) | (with_reducible refine M.Var.drew ?_) | (with_reducible refine M.Var.far ?_ _ _ ?hFar; case hFar => (first | omega | ((try simp [go_sem]) <;> omega))) | fail))) (by omega) hb
        have q9_h_0 : w9.cell? ⟨w.heap.size + 1 + 1, 0, none⟩ = some (.int .i64 h.nx) := V9_h.c 0 _ rfl
        have q9_h_1 : w9.cell? ⟨w.heap.size + 1 + 1, 1, none⟩ = some (.int .i64 h.ny) := V9_h.c 1 _ rfl
        have q9_h_2 : w9.cell? ⟨w.heap.size + 1 + 1, 2, none⟩ = some (.int .i64 h.d) := V9_h.c 2 _ rfl
        have f9_h := V9_h.2.2
        have L9_h := V9_h.lt
        have N9_h := Nat.ne_of_gt L9_h
        have M9_h := Nat.ne_of_lt L9_h
        have V9_r : M.Var w9 (w.heap.size + 1 + 1 + 1) #[.int .i64 0, .int .i64 0, .int .i64 0, .int .i64 0, .int .i64 0, .int .i64 0, .int .i64 0, .int .i64 0] := M.var_rw (by (repeat (first | (with_reducible assumption) | (with_reducible apply M.var_set45) | (with_reducible apply M.var_setBd) | (with_reducible apply M.var_setV) | (with_reducible refine M.var_alloc' _ _ _ ?_; first | rfl | (focus (simp [go_sem]; done))) | (with_reducible refine M.Var.alloc ?_ _) | (with_reducible refine M.Var.drewN ?_ _) | (with_reducible refine M.Var.drew ?_) | (with_reducible refine M.Var.far ?_ _ _ ?hFar; case hFar => (first | omega | ((try simp [go_sem]) <;> omega))) | fail))) (by omega) hb
        have q9_r_0 : w9.cell? ⟨w.heap.size + 1 + 1 + 1, 0, none⟩ = some (.int .i64 0) := V9_r.c 0 _ rfl
        have q9_r_1 : w9.cell? ⟨w.heap.size + 1 + 1 + 1, 1, none⟩ = some (.int .i64 0) := V9_r.c 1 _ rfl
        have q9_r_2 : w9.cell? ⟨w.heap.size + 1 + 1 + 1, 2, none⟩ = some (.int .i64 0) := V9_r.c 2 _ rfl
        have q9_r_3 : w9.cell? ⟨w.heap.size + 1 + 1 + 1, 3, none⟩ = some (.int .i64 0) := V9_r.c 3 _ rfl
        have q9_r_4 : w9.cell? ⟨w.heap.size + 1 + 1 + 1, 4, none⟩ = some (.int .i64 0) := V9_r.c 4 _ rfl
        have q9_r_5 : w9.cell? ⟨w.heap.size + 1 + 1 + 1, 5, none⟩ = some (.int .i64 0) := V9_r.c 5 _ rfl
        have q9_r_6 : w9.cell? ⟨w.heap.size + 1 + 1 + 1, 6, none⟩ = some (.int .i64 0) := V9_r.c 6 _ rfl
        have q9_r_7 : w9.cell? ⟨w.heap.size + 1 + 1 + 1, 7, none⟩ = some (.int .i64 0) := V9_r.c 7 _ rfl
        have f9_r := V9_r.2.2
        have L9_r := V9_r.lt
        have N9_r := Nat.ne_of_gt L9_r
        have M9_r := Nat.ne_of_lt L9_r
        have V9_s : M.Var w9 (w.heap.size + 1 + 1 + 1 + 1) #[.int .i64 0, .int .i64 0, .int .i64 0, .int .i64 0, .int .i64 0, .int .i64 0, .int .i64 0, .int .i64 0] := M.var_rw (by (repeat (first | (with_reducible assumption) | (with_reducible apply M.var_set45) | (with_reducible apply M.var_setBd) | (with_reducible apply M.var_setV) | (with_reducible refine M.var_alloc' _ _ _ ?_; first | rfl | (focus (simp [go_sem]; done))) | (with_reducible refine M.Var.alloc ?_ _) | (with_reducible refine M.Var.drewN ?_ _) | (with_reducible refine M.Var.drew ?_) | (with_reducible refine M.Var.far ?_ _ _ ?hFar; case hFar => (first | omega | ((try simp [go_sem]) <;> omega))) | fail))) (by omega) hb
        have q9_s_0 : w9.cell? ⟨w.heap.size + 1 + 1 + 1 + 1, 0, none⟩ = some (.int .i64 0) := V9_s.c 0 _ rfl
        have q9_s_1 : w9.cell? ⟨w.heap.size + 1 + 1 + 1 + 1, 1, none⟩ = some (.int .i64 0) := V9_s.c 1 _ rfl
        have q9_s_2 : w9.cell? ⟨w.heap.size + 1 + 1 + 1 + 1, 2, none⟩ = some (.int .i64 0) := V9_s.c 2 _ rfl
        have q9_s_3 : w9.cell? ⟨w.heap.size + 1 + 1 + 1 + 1, 3, none⟩ = some (.int .i64 0) := V9_s.c 3 _ rfl
        have q9_s_4 : w9.cell? ⟨w.heap.size + 1 + 1 + 1 + 1, 4, none⟩ = some (.int .i64 0) := V9_s.c 4 _ rfl
        have q9_s_5 : w9.cell? ⟨w.heap.size + 1 + 1 + 1 + 1, 5, none⟩ = some (.int .i64 0) := V9_s.c 5 _ rfl
        have q9_s_6 : w9.cell? ⟨w.heap.size + 1 + 1 + 1 + 1, 6, none⟩ = some (.int .i64 0) := V9_s.c 6 _ rfl
        have q9_s_7 : w9.cell? ⟨w.heap.size + 1 + 1 + 1 + 1, 7, none⟩ = some (.int .i64 0) := V9_s.c 7 _ rfl
        have f9_s := V9_s.2.2
        have L9_s := V9_s.lt
        have N9_s := Nat.ne_of_gt L9_s
        have M9_s := Nat.ne_of_lt L9_s
        clear V8_a f8_a L8_a N8_a M8_a q8_a_0 q8_a_1 q8_a_2 q8_a_3 q8_a_4 q8_a_5 q8_a_6 q8_a_7 V8_b f8_b L8_b N8_b M8_b q8_b_0 q8_b_1 q8_b_2 q8_b_3 q8_b_4 q8_b_5 q8_b_6 q8_b_7 V8_h f8_h L8_h N8_h M8_h q8_h_0 q8_h_1 q8_h_2 V8_r f8_r L8_r N8_r M8_r q8_r_0 q8_r_1 q8_r_2 q8_r_3 q8_r_4 q8_r_5 q8_r_6 q8_r_7 V8_s f8_s L8_s N8_s M8_s q8_s_0 q8_s_1 q8_s_2 q8_s_3 q8_s_4 q8_s_5 q8_s_6 q8_s_7 PC8 c8_pb f8_pb L8_pb N8_pb M8_pb
        have HR9 := Lib.hid hr; clear hr
        have c9_pb := PC9.2.1; have f9_pb := PC9.2.2; have L9_pb := PC9.1; have N9_pb := Nat.ne_of_gt L9_pb; have M9_pb := Nat.ne_of_lt L9_pb
        have HG9 := Lib.hid G9; clear G9 hb
        go_wp2_with (with_reducible refine M.stopPost ?_)
        (with_reducible refine (CA.out e9 _ _ z ixt _ (by (repeat (first | (with_reducible assumption) | (with_reducible refine M.pcell_alloc ?_ _) | (with_reducible refine M.pcell_drewN ?_ _) | (with_reducible refine M.pcell_drew ?_) | (with_reducible refine M.pcell_far ?_ _ _ ?hFar; case hFar => (first | omega | ((try simp [go_sem]) <;> omega))) | fail)))).mono ?_); rintro en w10 ⟨xs, e10, rfl, ixs, hr, hb⟩
        have G10 : M.RW pb e10 w w10 := M.rw_step (by have G := HG9.out; (repeat (with_reducible refine M.Below.drewN ?_ _)); go_grown) hb hpb
        have S10 : w.heap.size ≤ w10.heap.size := by have := G10.size; rwa [M.setCell_size] at this
        have PC10 : M.PCell w10 pb e10 := M.pcell_behind hb (e := e9) (by (repeat (first | (with_reducible assumption) | (with_reducible refine M.pcell_alloc ?_ _) | (with_reducible refine M.pcell_drewN ?_ _) | (with_reducible refine M.pcell_drew ?_) | (with_reducible refine M.pcell_far ?_ _ _ ?hFar; case hFar => (first | omega | ((try simp [go_sem]) <;> omega))) | fail)))
        have V10_a : M.Var w10 (w.heap.size) #[.int .i64 a.shape, .int .i64 a.sx, .int .i64 a.sy, .int .i64 a.mass, .int .i64 a.px, .int .i64 a.py, .int .i64 a.mx, .int .i64 a.my] := M.var_rw (by (repeat (first | (with_reducible assumption) | (with_reducible apply M.var_set45) | (with_reducible apply M.var_setBd) | (with_reducible apply M.var_setV) | (with_reducible refine M.var_alloc' _ _ _ ?_; first | rfl | (focus (simp [go_sem]; done))) | (with_reducible refine M.Var.alloc ?_ _) | (with_reducible refine M.Var.drewN ?_ _) | (with_reducible refine M.Var.drew ?_) | (with_reducible refine M.Var.far ?_ _ _ ?hFar; case hFar => (first | omega | ((try simp [go_sem]) <;> omega))) | fail))) (by omega) hb
        have q10_a_0 : w10.cell? ⟨w.heap.size, 0, none⟩ = some (.int .i64 a.shape) := V10_a.c 0 _ rfl
        have q10_a_1 : w10.cell? ⟨w.heap.size, 1, none⟩ = some (.int .i64 a.sx) := V10_a.c 1 _ rfl
        have q10_a_2 : w10.cell? ⟨w.heap.size, 2, none⟩ = some (.int .i64 a.sy) := V10_a.c 2 _ rfl
        have q10_a_3 : w10.cell? ⟨w.heap.size, 3, none⟩ = some (.int .i64 a.mass) := V10_a.c 3 _ rfl
        have q10_a_4 : w10.cell? ⟨w.heap.size, 4, none⟩ = some (.int .i64 a.px) := V10_a.c 4 _ rfl
        have q10_a_5 : w10.cell? ⟨w.heap.size, 5, none⟩ = some (.int .i64 a.py) := V10_a.c 5 _ rfl
        have q10_a_6 : w10.cell? ⟨w.heap.size, 6, none⟩ = some (.int .i64 a.mx) := V10_a.c 6 _ rfl
        have q10_a_7 : w10.cell? ⟨w.heap.size, 7, none⟩ = some (.int .i64 a.my) := V10_a.c 7 _ rfl
        have f10_a := V10_a.2.2
        have L10_a := V10_a.lt
        have N10_a := Nat.ne_of_gt L10_a
        have M10_a := Nat.ne_of_lt L10_a
        have V10_b : M.Var w10 (w.heap.size + 1) #[.int .i64 b.shape, .int .i64 b.sx, .int .i64 b.sy, .int .i64 b.mass, .int .i64 b.px, .int .i64 b.py, .int .i64 b.mx, .int .i64 b.my] := M.var_rw (by (repeat (first | (with_reducible assumption) | (with_reducible apply M.var_set45) | (with_reducible apply M.var_setBd) | (with_reducible apply M.var_setV) | (with_reducible refine M.var_alloc' _ _ _ ?_; first | rfl | (focus (simp [go_sem]; done))) | (with_reducible refine M.Var.alloc ?_ _) | (with_reducible refine M.Var.drewN ?_ _) | (with_reducible refine M.Var.drew ?_) | (with_reducible refine M.Var.far ?_ _ _ ?hFar; case hFar => (first | omega | ((try simp [go_sem]) <;> omega))) | fail))) (by omega) hb
        have q10_b_0 : w10.cell? ⟨w.heap.size + 1, 0, none⟩ = some (.int .i64 b.shape) := V10_b.c 0 _ rfl
        have q10_b_1 : w10.cell? ⟨w.heap.size + 1, 1, none⟩ = some (.int .i64 b.sx) := V10_b.c 1 _ rfl
        have q10_b_2 : w10.cell? ⟨w.heap.size + 1, 2, none⟩ = some (.int .i64 b.sy) := V10_b.c 2 _ rfl
        have q10_b_3 : w10.cell? ⟨w.heap.size + 1, 3, none⟩ = some (.int .i64 b.mass) := V10_b.c 3 _ rfl
        have q10_b_4 : w10.cell? ⟨w.heap.size + 1, 4, none⟩ = some (.int .i64 b.px) := V10_b.c 4 _ rfl
        have q10_b_5 : w10.cell? ⟨w.heap.size + 1, 5, none⟩ = some (.int .i64 b.py) := V10_b.c 5 _ rfl
        have q10_b_6 : w10.cell? ⟨w.heap.size + 1, 6, none⟩ = some (.int .i64 b.mx) := V10_b.c 6 _ rfl
        have q10_b_7 : w10.cell? ⟨w.heap.size + 1, 7, none⟩ = some (.int .i64 b.my) := V10_b.c 7 _ rfl
        have f10_b := V10_b.2.2
        have L10_b := V10_b.lt
        have N10_b := Nat.ne_of_gt L10_b
        have M10_b := Nat.ne_of_lt L10_b
        have V10_h : M.Var w10 (w.heap.size + 1 + 1) #[.int .i64 h.nx, .int .i64 h.ny, .int .i64 h.d] := M.var_rw (by (repeat (first | (with_reducible assumption) | (with_reducible apply M.var_set45) | (with_reducible apply M.var_setBd) | (with_reducible apply M.var_setV) | (with_reducible refine M.var_alloc' _ _ _ ?_; first | rfl | (focus (simp [go_sem]; done))) | (with_reducible refine M.Var.alloc ?_ _) | (with_reducible refine M.Var.drewN ?_ _) | (with_reducible refine M.Var.drew ?_) | (with_reducible refine M.Var.far ?_ _ _ ?hFar; case hFar => (first | omega | ((try simp [go_sem]) <;> omega))) | fail))) (by omega) hb
        have q10_h_0 : w10.cell? ⟨w.heap.size + 1 + 1, 0, none⟩ = some (.int .i64 h.nx) := V10_h.c 0 _ rfl
        have q10_h_1 : w10.cell? ⟨w.heap.size + 1 + 1, 1, none⟩ = some (.int .i64 h.ny) := V10_h.c 1 _ rfl
        have q10_h_2 : w10.cell? ⟨w.heap.size + 1 + 1, 2, none⟩ = some (.int .i64 h.d) := V10_h.c 2 _ rfl
        have f10_h := V10_h.2.2
        have L10_h := V10_h.lt
        have N10_h := Nat.ne_of_gt L10_h
        have M10_h := Nat.ne_of_lt L10_h
        have V10_r : M.Var w10 (w.heap.size + 1 + 1 + 1) #[.int .i64 0, .int .i64 0, .int .i64 0, .int .i64 0, .int .i64 0, .int .i64 0, .int .i64 0, .int .i64 0] := M.var_rw (by (repeat (first | (with_reducible assumption) | (with_reducible apply M.var_set45) | (with_reducible apply M.var_setBd) | (with_reducible apply M.var_setV) | (with_reducible refine M.var_alloc' _ _ _ ?_; first | rfl | (focus (simp [go_sem]; done))) | (with_reducible refine M.Var.alloc ?_ _) | (with_reducible refine M.Var.drewN ?_ _) | (with_reducible refine M.Var.drew ?_) | (with_reducible refine M.Var.far ?_ _ _ ?hFar; case hFar => (first | omega | ((try simp [go_sem]) <;> omega))) | fail))) (by omega) hb
        have q10_r_0 : w10.cell? ⟨w.heap.size + 1 + 1 + 1, 0, none⟩ = some (.int .i64 0) := V10_r.c 0 _ rfl
        have q10_r_1 : w10.cell? ⟨w.heap.size + 1 + 1 + 1, 1, none⟩ = some (.int .i64 0) := V10_r.c 1 _ rfl
        have q10_r_2 : w10.cell? ⟨w.heap.size + 1 + 1 + 1, 2, none⟩ = some (.int .i64 0) := V10_r.c 2 _ rfl
        have q10_r_3 : w10.cell? ⟨w.heap.size + 1 + 1 + 1, 3, none⟩ = some (.int .i64 0) := V10_r.c 3 _ rfl
        have q10_r_4 : w10.cell? ⟨w.heap.size + 1 + 1 + 1, 4, none⟩ = some (.int .i64 0) := V10_r.c 4 _ rfl
        have q10_r_5 : w10.cell? ⟨w.heap.size + 1 + 1 + 1, 5, none⟩ = some (.int .i64 0) := V10_r.c 5 _ rfl
        have q10_r_6 : w10.cell? ⟨w.heap.size + 1 + 1 + 1, 6, none⟩ = some (.int .i64 0) := V10_r.c 6 _ rfl
        have q10_r_7 : w10.cell? ⟨w.heap.size + 1 + 1 + 1, 7, none⟩ = some (.int .i64 0) := V10_r.c 7 _ rfl
        have f10_r := V10_r.2.2
        have L10_r := V10_r.lt
        have N10_r := Nat.ne_of_gt L10_r
        have M10_r := Nat.ne_of_lt L10_r
        have V10_s : M.Var w10 (w.heap.size + 1 + 1 + 1 + 1) #[.int .i64 0, .int .i64 0, .int .i64 0, .int .i64 0, .int .i64 0, .int .i64 0, .int .i64 0, .int .i64 0] := M.var_rw (by (repeat (first | (with_reducible assumption) | (with_reducible apply M.var_set45) | (with_reducible apply M.var_setBd) | (with_reducible apply M.var_setV) | (with_reducible refine M.var_alloc' _ _ _ ?_; first | rfl | (focus (simp [go_sem]; done))) | (with_reducible refine M.Var.alloc ?_ _) | (with_reducible refine M.Var.drewN ?_ _) | (with_reducible refine M.Var.drew ?_) | (with_reducible refine M.Var.far ?_ _ _ ?hFar; case hFar => (first | omega | ((try simp [go_sem]) <;> omega))) | fail))) (by omega) hb
        have q10_s_0 : w10.cell? ⟨w.heap.size + 1 + 1 + 1 + 1, 0, none⟩ = some (.int .i64 0) := V10_s.c 0 _ rfl
        have q10_s_1 : w10.cell? ⟨w.heap.size + 1 + 1 + 1 + 1, 1, none⟩ = some (.int .i64 0) := V10_s.c 1 _ rfl
        have q10_s_2 : w10.cell? ⟨w.heap.size + 1 + 1 + 1 + 1, 2, none⟩ = some (.int .i64 0) := V10_s.c 2 _ rfl
        have q10_s_3 : w10.cell? ⟨w.heap.size + 1 + 1 + 1 + 1, 3, none⟩ = some (.int .i64 0) := V10_s.c 3 _ rfl
        have q10_s_4 : w10.cell? ⟨w.heap.size + 1 + 1 + 1 + 1, 4, none⟩ = some (.int .i64 0) := V10_s.c 4 _ rfl
        have q10_s_5 : w10.cell? ⟨w.heap.size + 1 + 1 + 1 + 1, 5, none⟩ = some (.int .i64 0) := V10_s.c 5 _ rfl
        have q10_s_6 : w10.cell? ⟨w.heap.size + 1 + 1 + 1 + 1, 6, none⟩ = some (.int .i64 0) := V10_s.c 6 _ rfl
        have q10_s_7 : w10.cell? ⟨w.heap.size + 1 + 1 + 1 + 1, 7, none⟩ = some (.int .i64 0) := V10_s.c 7 _ rfl
        have f10_s := V10_s.2.2
        have L10_s := V10_s.lt
        have N10_s := Nat.ne_of_gt L10_s
        have M10_s := Nat.ne_of_lt L10_s
        clear V9_a f9_a L9_a N9_a M9_a q9_a_0 q9_a_1 q9_a_2 q9_a_3 q9_a_4 q9_a_5 q9_a_6 q9_a_7 V9_b f9_b L9_b N9_b M9_b q9_b_0 q9_b_1 q9_b_2 q9_b_3 q9_b_4 q9_b_5 q9_b_6 q9_b_7 V9_h f9_h L9_h N9_h M9_h q9_h_0 q9_h_1 q9_h_2 V9_r f9_r L9_r N9_r M9_r q9_r_0 q9_r_1 q9_r_2 q9_r_3 q9_r_4 q9_r_5 q9_r_6 q9_r_7 V9_s f9_s L9_s N9_s M9_s q9_s_0 q9_s_1 q9_s_2 q9_s_3 q9_s_4 q9_s_5 q9_s_6 q9_s_7 PC9 c9_pb f9_pb L9_pb N9_pb M9_pb
        have HR10 := Lib.hid hr; clear hr
        have c10_pb := PC10.2.1; have f10_pb := PC10.2.2; have L10_pb := PC10.1; have N10_pb := Nat.ne_of_gt L10_pb; have M10_pb := Nat.ne_of_lt L10_pb
        have HG10 := Lib.hid G10; clear G10 hb
        go_wp2_with (with_reducible refine M.stopPost ?_)
        (with_reducible refine (CC.out e10 _ _ ixs ik _ (by (repeat (first | (with_reducible assumption) | (with_reducible refine M.pcell_alloc ?_ _) | (with_reducible refine M.pcell_drewN ?_ _) | (with_reducible refine M.pcell_drew ?_) | (with_reducible refine M.pcell_far ?_ _ _ ?hFar; case hFar => (first | omega | ((try simp [go_sem]) <;> omega))) | fail)))).mono ?_); rintro en w11 ⟨xj, e11, rfl, ixj, hr, hb⟩
        have G11 : M.RW pb e11 w w11 := M.rw_step (by have G := HG10.out; (repeat (with_reducible refine M.Below.drewN ?_ _)); go_grown) hb hpb
        have S11 : w.heap.size ≤ w11.heap.size := by have := G11.size; rwa [M.setCell_size] at this
        have PC11 : M.PCell w11 pb e11 := M.pcell_behind hb (e := e10) (by (repeat (first | (with_reducible assumption) | (with_reducible refine M.pcell_alloc ?_ _) | (with_reducible refine M.pcell_drewN ?_ _) | (with_reducible refine M.pcell_drew ?_) | (with_reducible refine M.pcell_far ?_ _ _ ?hFar; case hFar => (first | omega | ((try simp [go_sem]) <;> omega))) | fail)))
        have V11_a : M.Var w11 (w.heap.size) #[.int .i64 a.shape, .int .i64 a.sx, .int .i64 a.sy, .int .i64 a.mass, .int .i64 a.px, .int .i64 a.py, .int .i64 a.mx, .int .i64 a.my] := M.var_rw (by (repeat (first | (with_reducible assumption) | (with_reducible apply M.var_set45) | (with_reducible apply M.var_setBd) | (with_reducible apply M.var_setV) | (with_reducible refine M.var_alloc' _ _ _ ?_; first | rfl | (focus (simp [go_sem]; done))) | (with_reducible refine M.Var.alloc ?_ _) | (with_reducible refine M.Var.drewN ?_ _) | (with_reducible refine M.Var.drew ?_) | (with_reducible refine M.Var.far ?_ _ _ ?hFar; case hFar => (first | omega | ((try simp [go_sem]) <;> omega))) | fail))) (by omega) hb
        have q11_a_0 : w11.cell? ⟨w.heap.size, 0, none⟩ = some (.int .i64 a.shape) := V11_a.c 0 _ rfl
        have q11_a_1 : w11.cell? ⟨w.heap.size, 1, none⟩ = some (.int .i64 a.sx) := V11_a.c 1 _ rfl
        have q11_a_2 : w11.cell? ⟨w.heap.size, 2, none⟩ = some (.int .i64 a.sy) := V11_a.c 2 _ rfl
        have q11_a_3 : w11.cell? ⟨w.heap.size, 3, none⟩ = some (.int .i64 a.mass) := V11_a.c 3 _ rfl
        have q11_a_4 : w11.cell? ⟨w.heap.size, 4, none⟩ = some (.int .i64 a.px) := V11_a.c 4 _ rfl
        have q11_a_5 : w11.cell? ⟨w.heap.size, 5, none⟩ = some (.int .i64 a.py) := V11_a.c 5 _ rfl
        have q11_a_6 : w11.cell? ⟨w.heap.size, 6, none⟩ = some (.int .i64 a.mx) := V11_a.c 6 _ rfl
        have q11_a_7 : w11.cell? ⟨w.heap.size, 7, none⟩ = some (.int .i64 a.my) := V11_a.c 7 _ rfl
        have f11_a := V11_a.2.2
        have L11_a := V11_a.lt
        have N11_a := Nat.ne_of_gt L11_a
        have M11_a := Nat.ne_of_lt L11_a
        have V11_b : M.Var w11 (w.heap.size + 1) #[.int .i64 b.shape, .int .i64 b.sx, .int .i64 b.sy, .int .i64 b.mass, .int .i64 b.px, .int .i64 b.py, .int .i64 b.mx, .int .i64 b.my] := M.var_rw (by (repeat (first | (with_reducible assumption) | (with_reducible apply M.var_set45) | (with_reducible apply M.var_setBd) | (with_reducible apply M.var_setV) | (with_reducible refine M.var_alloc' _ _ _ ?_; first | rfl | (focus (simp [go_sem]; done))) | (with_reducible refine M.Var.alloc ?_ _) | (with_reducible refine M.Var.drewN ?_ _) | (with_reducible refine M.Var.drew ?_) | (with_reducible refine M.Var.far ?_ _ _ ?hFar; case hFar => (first | omega | ((try simp [go_sem]) <;> omega))) | fail))) (by omega) hb
        have q11_b_0 : w11.cell? ⟨w.heap.size + 1, 0, none⟩ = some (.int .i64 b.shape) := V11_b.c 0 _ rfl
        have q11_b_1 : w11.cell? ⟨w.heap.size + 1, 1, none⟩ = some (.int .i64 b.sx) := V11_b.c 1 _ rfl
        have q11_b_2 : w11.cell? ⟨w.heap.size + 1, 2, none⟩ = some (.int .i64 b.sy) := V11_b.c 2 _ rfl
        have q11_b_3 : w11.cell? ⟨w.heap.size + 1, 3, none⟩ = some (.int .i64 b.mass) := V11_b.c 3 _ rfl
        have q11_b_4 : w11.cell? ⟨w.heap.size + 1, 4, none⟩ = some (.int .i64 b.px) := V11_b.c 4 _ rfl
        have q11_b_5 : w11.cell? ⟨w.heap.size + 1, 5, none⟩ = some (.int .i64 b.py) := V11_b.c 5 _ rfl
        have q11_b_6 : w11.cell? ⟨w.heap.size + 1, 6, none⟩ = some (.int .i64 b.mx) := V11_b.c 6 _ rfl
        have q11_b_7 : w11.cell? ⟨w.heap.size + 1, 7, none⟩ = some (.int .i64 b.my) := V11_b.c 7 _ rfl
        have f11_b := V11_b.2.2
        have L11_b := V11_b.lt
        have N11_b := Nat.ne_of_gt L11_b
        have M11_b := Nat.ne_of_lt L11_b
        have V11_h : M.Var w11 (w.heap.size + 1 + 1) #[.int .i64 h.nx, .int .i64 h.ny, .int .i64 h.d] := M.var_rw (by (repeat (first | (with_reducible assumption) | (with_reducible apply M.var_set45) | (with_reducible apply M.var_setBd) | (with_reducible apply M.var_setV) | (with_reducible refine M.var_alloc' _ _ _ ?_; first | rfl | (focus (simp [go_sem]; done))) | (with_reducible refine M.Var.alloc ?_ _) | (with_reducible refine M.Var.drewN ?_ _) | (with_reducible refine M.Var.drew ?_) | (with_reducible refine M.Var.far ?_ _ _ ?hFar; case hFar => (first | omega | ((try simp [go_sem]) <;> omega))) | fail))) (by omega) hb
        have q11_h_0 : w11.cell? ⟨w.heap.size + 1 + 1, 0, none⟩ = some (.int .i64 h.nx) := V11_h.c 0 _ rfl
        have q11_h_1 : w11.cell? ⟨w.heap.size + 1 + 1, 1, none⟩ = some (.int .i64 h.ny) := V11_h.c 1 _ rfl
        have q11_h_2 : w11.cell? ⟨w.heap.size + 1 + 1, 2, none⟩ = some (.int .i64 h.d) := V11_h.c 2 _ rfl
        have f11_h := V11_h.2.2
        have L11_h := V11_h.lt
        have N11_h := Nat.ne_of_gt L11_h
        have M11_h := Nat.ne_of_lt L11_h
        have V11_r : M.Var w11 (w.heap.size + 1 + 1 + 1) #[.int .i64 0, .int .i64 0, .int .i64 0, .int .i64 0, .int .i64 0, .int .i64 0, .int .i64 0, .int .i64 0] := M.var_rw (by (repeat (first | (with_reducible assumption) | (with_reducible apply M.var_set45) | (with_reducible apply M.var_setBd) | (with_reducible apply M.var_setV) | (with_reducible refine M.var_alloc' _ _ _ ?_; first | rfl | (focus (simp [go_sem]; done))) | (with_reducible refine M.Var.alloc ?_ _) | (with_reducible refine M.Var.drewN ?_ _) | (with_reducible refine M.Var.drew ?_) | (with_reducible refine M.Var.far ?_ _ _ ?hFar; case hFar => (first | omega | ((try simp [go_sem]) <;> omega))) | fail))) (by omega) hb
        have q11_r_0 : w11.cell? ⟨w.heap.size + 1 + 1 + 1, 0, none⟩ = some (.int .i64 0) := V11_r.c 0 _ rfl
        have q11_r_1 : w11.cell? ⟨w.heap.size + 1 + 1 + 1, 1, none⟩ = some (.int .i64 0) := V11_r.c 1 _ rfl
        have q11_r_2 : w11.cell? ⟨w.heap.size + 1 + 1 + 1, 2, none⟩ = some (.int .i64 0) := V11_r.c 2 _ rfl
        have q11_r_3 : w11.cell? ⟨w.heap.size + 1 + 1 + 1, 3, none⟩ = some (.int .i64 0) := V11_r.c 3 _ rfl
        have q11_r_4 : w11.cell? ⟨w.heap.size + 1 + 1 + 1, 4, none⟩ = some (.int .i64 0) := V11_r.c 4 _ rfl
        have q11_r_5 : w11.cell? ⟨w.heap.size + 1 + 1 + 1, 5, none⟩ = some (.int .i64 0) := V11_r.c 5 _ rfl
        have q11_r_6 : w11.cell? ⟨w.heap.size + 1 + 1 + 1, 6, none⟩ = some (.int .i64 0) := V11_r.c 6 _ rfl
        have q11_r_7 : w11.cell? ⟨w.heap.size + 1 + 1 + 1, 7, none⟩ = some (.int .i64 0) := V11_r.c 7 _ rfl
        have f11_r := V11_r.2.2
        have L11_r := V11_r.lt
        have N11_r := Nat.ne_of_gt L11_r
        have M11_r := Nat.ne_of_lt L11_r
        have V11_s : M.Var w11 (w.heap.size + 1 + 1 + 1 + 1) #[.int .i64 0, .int .i64 0, .int .i64 0, .int .i64 0, .int .i64 0, .int .i64 0, .int .i64 0, .int .i64 0] := M.var_rw (by (repeat (first | (with_reducible assumption) | (with_reducible apply M.var_set45) | (with_reducible apply M.var_setBd) | (with_reducible apply M.var_setV) | (with_reducible refine M.var_alloc' _ _ _ ?_; first | rfl | (focus (simp [go_sem]; done))) | (with_reducible refine M.Var.alloc ?_ _) | (with_reducible refine M.Var.drewN ?_ _) | (with_reducible refine M.Var.drew ?_) | (with_reducible refine M.Var.far ?_ _ _ ?hFar; case hFar => (first | omega | ((try simp [go_sem]) <;> omega))) | fail))) (by omega) hb
        have q11_s_0 : w11.cell? ⟨w.heap.size + 1 + 1 + 1 + 1, 0, none⟩ = some (.int .i64 0) := V11_s.c 0 _ rfl
        have q11_s_1 : w11.cell? ⟨w.heap.size + 1 + 1 + 1 + 1, 1, none⟩ = some (.int .i64 0) := V11_s.c 1 _ rfl
        have q11_s_2 : w11.cell? ⟨w.heap.size + 1 + 1 + 1 + 1, 2, none⟩ = some (.int .i64 0) := V11_s.c 2 _ rfl
        have q11_s_3 : w11.cell? ⟨w.heap.size + 1 + 1 + 1 + 1, 3, none⟩ = some (.int .i64 0) := V11_s.c 3 _ rfl
        have q11_s_4 : w11.cell? ⟨w.heap.size + 1 + 1 + 1 + 1, 4, none⟩ = some (.int .i64 0) := V11_s.c 4 _ rfl
        have q11_s_5 : w11.cell? ⟨w.heap.size + 1 + 1 + 1 + 1, 5, none⟩ = some (.int .i64 0) := V11_s.c 5 _ rfl
        have q11_s_6 : w11.cell? ⟨w.heap.size + 1 + 1 + 1 + 1, 6, none⟩ = some (.int .i64 0) := V11_s.c 6 _ rfl
        have q11_s_7 : w11.cell? ⟨w.heap.size + 1 + 1 + 1 + 1, 7, none⟩ = some (.int .i64 0) := V11_s.c 7 _ rfl
        have f11_s := V11_s.2.2
        have L11_s := V11_s.lt
        have N11_s := Nat.ne_of_gt L11_s
        have M11_s := Nat.ne_of_lt L11_s
        clear V10_a f10_a L10_a N10_a M10_a q10_a_0 q10_a_1 q10_a_2 q10_a_3 q10_a_4 q10_a_5 q10_a_6 q10_a_7 V10_b f10_b L10_b N10_b M10_b q10_b_0 q10_b_1 q10_b_2 q10_b_3 q10_b_4 q10_b_5 q10_b_6 q10_b_7 V10_h f10_h L10_h N10_h M10_h q10_h_0 q10_h_1 q10_h_2 V10_r f10_r L10_r N10_r M10_r q10_r_0 q10_r_1 q10_r_2 q10_r_3 q10_r_4 q10_r_5 q10_r_6 q10_r_7 V10_s f10_s L10_s N10_s M10_s q10_s_0 q10_s_1 q10_s_2 q10_s_3 q10_s_4 q10_s_5 q10_s_6 q10_s_7 PC10 c10_pb f10_pb L10_pb N10_pb M10_pb
        have HR11 := Lib.hid hr; clear hr
        have c11_pb := PC11.2.1; have f11_pb := PC11.2.2; have L11_pb := PC11.1; have N11_pb := Nat.ne_of_gt L11_pb; have M11_pb := Nat.ne_of_lt L11_pb
        have HG11 := Lib.hid G11; clear G11 hb
        go_wp2_with (with_reducible refine M.stopPost ?_)
        refine wp_region_till (S := fun sT wT' => Hid ((sT.getD 12 false = false → M.Var wT' (w.heap.size) #[.int .i64 a.shape, .int .i64 a.sx, .int .i64 a.sy, .int .i64 a.mass, .int .i64 a.px, .int .i64 a.py, .int .i64 a.mx, .int .i64 a.my]) ∧ (sT.getD 13 false = false → M.Var wT' (w.heap.size + 1) #[.int .i64 b.shape, .int .i64 b.sx, .int .i64 b.sy, .int .i64 b.mass, .int .i64 b.px, .int .i64 b.py, .int .i64 b.mx, .int .i64 b.my]) ∧ M.Var wT' (w.heap.size + 1 + 1) #[.int .i64 h.nx, .int .i64 h.ny, .int .i64 h.d] ∧ True)) (by kernel_rfl) (Lib.hid ⟨(fun _ => by (repeat (first | (with_reducible assumption) | (with_reducible apply M.var_set45) | (with_reducible apply M.var_setBd) | (with_reducible apply M.var_setV) | (with_reducible refine M.var_alloc' _ _ _ ?_; first | rfl | (focus (simp [go_sem]; done))) | (with_reducible refine M.Var.alloc ?_ _) | (with_reducible refine M.Var.drewN ?_ _) | (with_reducible refine M.Var.drew ?_) | (with_reducible refine M.Var.far ?_ _ _ ?hFar; case hFar => (first | omega | ((try simp [go_sem]) <;> omega))) | fail))), (fun _ => by (repeat (first | (with_reducible assumption) | (with_reducible apply M.var_set45) | (with_reducible apply M.var_setBd) | (with_reducible apply M.var_setV) | (with_reducible refine M.var_alloc' _ _ _ ?_; first | rfl | (focus (simp [go_sem]; done))) | (with_reducible refine M.Var.alloc ?_ _) | (with_reducible refine M.Var.drewN ?_ _) | (with_reducible refine M.Var.drew ?_) | (with_reducible refine M.Var.far ?_ _ _ ?hFar; case hFar => (first | omega | ((try simp [go_sem]) <;> omega))) | fail))), (by (repeat (first | (with_reducible assumption) | (with_reducible apply M.var_set45) | (with_reducible apply M.var_setBd) | (with_reducible apply M.var_setV) | (with_reducible refine M.var_alloc' _ _ _ ?_; first | rfl | (focus (simp [go_sem]; done))) | (with_reducible refine M.Var.alloc ?_ _) | (with_reducible refine M.Var.drewN ?_ _) | (with_reducible refine M.Var.drew ?_) | (with_reducible refine M.Var.far ?_ _ _ ?hFar; case hFar => (first | omega | ((try simp [go_sem]) <;> omega))) | fail))), trivial⟩) ?_
        intro hTb hTS
        refine wpTill_take (i := 0) (v := ?_) rfl (by kernel_rfl) (by kernel_rfl) (by kernel_rfl) hTb (fun _ _ _ h => h) (fun _ _ => by simp only [getD_set_ne false (show 0 ≠ 12 by decide), getD_set_ne false (show 0 ≠ 13 by decide)]) (Or.inl ⟨by rfl, ?_⟩) hTS ?_
        rotate_left
        · intro wT hT; clear hT
          go_simp
          all_goals with_reducible rfl
        clear hTb hTS; intro hTb hTS
        try simp only [Act.put, List.setIfInBounds_toArray, List.set_cons_zero, List.set_cons_succ]
        refine wpTill_take (i := 1) (v := ?_) rfl (by kernel_rfl) (by kernel_rfl) (by kernel_rfl) hTb (fun _ _ _ h => h) (fun _ _ => by simp only [getD_set_ne false (show 1 ≠ 12 by decide), getD_set_ne false (show 1 ≠ 13 by decide)]) (Or.inl ⟨by rfl, ?_⟩) hTS ?_
        rotate_left
        · rintro wT ⟨sT, hbT, huT, hST⟩
          have zT_a_0 := (hST.out.1 (till_flag (k := 12) (by kernel_rfl) hbT huT)).c 0 _ rfl
          have zT_a_1 := (hST.out.1 (till_flag (k := 12) (by kernel_rfl) hbT huT)).c 1 _ rfl
          have zT_a_2 := (hST.out.1 (till_flag (k := 12) (by kernel_rfl) hbT huT)).c 2 _ rfl
          have zT_a_3 := (hST.out.1 (till_flag (k := 12) (by kernel_rfl) hbT huT)).c 3 _ rfl
          have zT_a_4 := (hST.out.1 (till_flag (k := 12) (by kernel_rfl) hbT huT)).c 4 _ rfl
          have zT_a_5 := (hST.out.1 (till_flag (k := 12) (by kernel_rfl) hbT huT)).c 5 _ rfl
          have zT_a_6 := (hST.out.1 (till_flag (k := 12) (by kernel_rfl) hbT huT)).c 6 _ rfl
          have zT_a_7 := (hST.out.1 (till_flag (k := 12) (by kernel_rfl) hbT huT)).c 7 _ rfl
          have zT_b_0 := (hST.out.2.1 (till_flag (k := 13) (by kernel_rfl) hbT huT)).c 0 _ rfl
          have zT_b_1 := (hST.out.2.1 (till_flag (k := 13) (by kernel_rfl) hbT huT)).c 1 _ rfl
          have zT_b_2 := (hST.out.2.1 (till_flag (k := 13) (by kernel_rfl) hbT huT)).c 2 _ rfl
          have zT_b_3 := (hST.out.2.1 (till_flag (k := 13) (by kernel_rfl) hbT huT)).c 3 _ rfl
          have zT_b_4 := (hST.out.2.1 (till_flag (k := 13) (by kernel_rfl) hbT huT)).c 4 _ rfl
          have zT_b_5 := (hST.out.2.1 (till_flag (k := 13) (by kernel_rfl) hbT huT)).c 5 _ rfl
          have zT_b_6 := (hST.out.2.1 (till_flag (k := 13) (by kernel_rfl) hbT huT)).c 6 _ rfl
          have zT_b_7 := (hST.out.2.1 (till_flag (k := 13) (by kernel_rfl) hbT huT)).c 7 _ rfl
          have zT_h_0 := hST.out.2.2.1.c 0 _ rfl
          have zT_h_1 := hST.out.2.2.1.c 1 _ rfl
          have zT_h_2 := hST.out.2.2.1.c 2 _ rfl
          clear hST hbT huT
          go_simp
          all_goals with_reducible rfl
        clear hTb hTS; intro hTb hTS
        try simp only [Act.put, List.setIfInBounds_toArray, List.set_cons_zero, List.set_cons_succ]
        refine wpTill_take (i := 2) (v := ?_) rfl (by kernel_rfl) (by kernel_rfl) (by kernel_rfl) hTb (fun _ _ _ h => h) (fun _ _ => by simp only [getD_set_ne false (show 2 ≠ 12 by decide), getD_set_ne false (show 2 ≠ 13 by decide)]) (Or.inl ⟨by rfl, ?_⟩) hTS ?_
        rotate_left
        · rintro wT ⟨sT, hbT, huT, hST⟩
          have zT_a_0 := (hST.out.1 (till_flag (k := 12) (by kernel_rfl) hbT huT)).c 0 _ rfl
          have zT_a_1 := (hST.out.1 (till_flag (k := 12) (by kernel_rfl) hbT huT)).c 1 _ rfl
          have zT_a_2 := (hST.out.1 (till_flag (k := 12) (by kernel_rfl) hbT huT)).c 2 _ rfl
          have zT_a_3 := (hST.out.1 (till_flag (k := 12) (by kernel_rfl) hbT huT)).c 3 _ rfl
          have zT_a_4 := (hST.out.1 (till_flag (k := 12) (by kernel_rfl) hbT huT)).c 4 _ rfl
          have zT_a_5 := (hST.out.1 (till_flag (k := 12) (by kernel_rfl) hbT huT)).c 5 _ rfl
          have zT_a_6 := (hST.out.1 (till_flag (k := 12) (by kernel_rfl) hbT huT)).c 6 _ rfl
          have zT_a_7 := (hST.out.1 (till_flag (k := 12) (by kernel_rfl) hbT huT)).c 7 _ rfl
          have zT_b_0 := (hST.out.2.1 (till_flag (k := 13) (by kernel_rfl) hbT huT)).c 0 _ rfl
          have zT_b_1 := (hST.out.2.1 (till_flag (k := 13) (by kernel_rfl) hbT huT)).c 1 _ rfl
          have zT_b_2 := (hST.out.2.1 (till_flag (k := 13) (by kernel_rfl) hbT huT)).c 2 _ rfl
          have zT_b_3 := (hST.out.2.1 (till_flag (k := 13) (by kernel_rfl) hbT huT)).c 3 _ rfl
          have zT_b_4 := (hST.out.2.1 (till_flag (k := 13) (by kernel_rfl) hbT huT)).c 4 _ rfl
          have zT_b_5 := (hST.out.2.1 (till_flag (k := 13) (by kernel_rfl) hbT huT)).c 5 _ rfl
          have zT_b_6 := (hST.out.2.1 (till_flag (k := 13) (by kernel_rfl) hbT huT)).c 6 _ rfl
          have zT_b_7 := (hST.out.2.1 (till_flag (k := 13) (by kernel_rfl) hbT huT)).c 7 _ rfl
          have zT_h_0 := hST.out.2.2.1.c 0 _ rfl
          have zT_h_1 := hST.out.2.2.1.c 1 _ rfl
          have zT_h_2 := hST.out.2.2.1.c 2 _ rfl
          clear hST hbT huT
          go_simp
          all_goals with_reducible rfl
        clear hTb hTS; intro hTb hTS
        try simp only [Act.put, List.setIfInBounds_toArray, List.set_cons_zero, List.set_cons_succ]
        refine wpTill_take (i := 3) (v := ?_) rfl (by kernel_rfl) (by kernel_rfl) (by kernel_rfl) hTb (fun _ _ _ h => h) (fun _ _ => by simp only [getD_set_ne false (show 3 ≠ 12 by decide), getD_set_ne false (show 3 ≠ 13 by decide)]) (Or.inl ⟨by rfl, ?_⟩) hTS ?_
        rotate_left
        · intro wT hT; clear hT
          go_simp
          all_goals with_reducible rfl
        clear hTb hTS; intro hTb hTS
        try simp only [Act.put, List.setIfInBounds_toArray, List.set_cons_zero, List.set_cons_succ]
        refine wpTill_take (i := 4) (v := ?_) rfl (by kernel_rfl) (by kernel_rfl) (by kernel_rfl) hTb (fun _ _ _ h => h) (fun _ _ => by simp only [getD_set_ne false (show 4 ≠ 12 by decide), getD_set_ne false (show 4 ≠ 13 by decide)]) (Or.inl ⟨by rfl, ?_⟩) hTS ?_
        rotate_left
        · intro wT hT; clear hT
          go_simp
          all_goals with_reducible rfl
        clear hTb hTS; intro hTb hTS
        try simp only [Act.put, List.setIfInBounds_toArray, List.set_cons_zero, List.set_cons_succ]
        refine wpTill_take (i := 5) (v := ?_) rfl (by kernel_rfl) (by kernel_rfl) (by kernel_rfl) hTb (fun _ _ _ h => h) (fun _ _ => by simp only [getD_set_ne false (show 5 ≠ 12 by decide), getD_set_ne false (show 5 ≠ 13 by decide)]) (Or.inl ⟨by rfl, ?_⟩) hTS ?_
        rotate_left
        · rintro wT ⟨sT, hbT, huT, hST⟩
          have zT_a_0 := (hST.out.1 (till_flag (k := 12) (by kernel_rfl) hbT huT)).c 0 _ rfl
          have zT_a_1 := (hST.out.1 (till_flag (k := 12) (by kernel_rfl) hbT huT)).c 1 _ rfl
          have zT_a_2 := (hST.out.1 (till_flag (k := 12) (by kernel_rfl) hbT huT)).c 2 _ rfl
          have zT_a_3 := (hST.out.1 (till_flag (k := 12) (by kernel_rfl) hbT huT)).c 3 _ rfl
          have zT_a_4 := (hST.out.1 (till_flag (k := 12) (by kernel_rfl) hbT huT)).c 4 _ rfl
          have zT_a_5 := (hST.out.1 (till_flag (k := 12) (by kernel_rfl) hbT huT)).c 5 _ rfl
          have zT_a_6 := (hST.out.1 (till_flag (k := 12) (by kernel_rfl) hbT huT)).c 6 _ rfl
          have zT_a_7 := (hST.out.1 (till_flag (k := 12) (by kernel_rfl) hbT huT)).c 7 _ rfl
          have zT_b_0 := (hST.out.2.1 (till_flag (k := 13) (by kernel_rfl) hbT huT)).c 0 _ rfl
          have zT_b_1 := (hST.out.2.1 (till_flag (k := 13) (by kernel_rfl) hbT huT)).c 1 _ rfl
          have zT_b_2 := (hST.out.2.1 (till_flag (k := 13) (by kernel_rfl) hbT huT)).c 2 _ rfl
          have zT_b_3 := (hST.out.2.1 (till_flag (k := 13) (by kernel_rfl) hbT huT)).c 3 _ rfl
          have zT_b_4 := (hST.out.2.1 (till_flag (k := 13) (by kernel_rfl) hbT huT)).c 4 _ rfl
          have zT_b_5 := (hST.out.2.1 (till_flag (k := 13) (by kernel_rfl) hbT huT)).c 5 _ rfl
          have zT_b_6 := (hST.out.2.1 (till_flag (k := 13) (by kernel_rfl) hbT huT)).c 6 _ rfl
          have zT_b_7 := (hST.out.2.1 (till_flag (k := 13) (by kernel_rfl) hbT huT)).c 7 _ rfl
          have zT_h_0 := hST.out.2.2.1.c 0 _ rfl
          have zT_h_1 := hST.out.2.2.1.c 1 _ rfl
          have zT_h_2 := hST.out.2.2.1.c 2 _ rfl
          clear hST hbT huT
          go_simp
          all_goals with_reducible rfl
        clear hTb hTS; intro hTb hTS
        try simp only [Act.put, List.setIfInBounds_toArray, List.set_cons_zero, List.set_cons_succ]
        refine wpTill_take (i := 6) (v := ?_) rfl (by kernel_rfl) (by kernel_rfl) (by kernel_rfl) hTb (fun _ _ _ h => h) (fun _ _ => by simp only [getD_set_ne false (show 6 ≠ 12 by decide), getD_set_ne false (show 6 ≠ 13 by decide)]) (Or.inl ⟨by rfl, ?_⟩) hTS ?_
        rotate_left
        · intro wT hT; clear hT
          go_simp
          all_goals with_reducible rfl
        clear hTb hTS; intro hTb hTS
        try simp only [Act.put, List.setIfInBounds_toArray, List.set_cons_zero, List.set_cons_succ]
        refine wpTill_one (i := 7) (by kernel_rfl) rfl hTb (fun K hK => ?_)
        go_simp
        (with_reducible refine (CD.out e11 _ _ _ HH.out.nx HH.out.ny ixj _ (by (repeat (first | (with_reducible assumption) | (with_reducible refine M.pcell_alloc ?_ _) | (with_reducible refine M.pcell_drewN ?_ _) | (with_reducible refine M.pcell_drew ?_) | (with_reducible refine M.pcell_far ?_ _ _ ?hFar; case hFar => (first | omega | ((try simp [go_sem]) <;> omega))) | fail)))).mono ?_); rintro en w12 ⟨gx, gy, e12, rfl, igx, igy, hr, hb⟩
        have G12 : M.RW pb e12 w w12 := M.rw_step (by have G := HG11.out; (repeat (with_reducible refine M.Below.drewN ?_ _)); go_grown) hb hpb
        have S12 : w.heap.size ≤ w12.heap.size := by have := G12.size; rwa [M.setCell_size] at this
        have PC12 : M.PCell w12 pb e12 := M.pcell_behind hb (e := e11) (by (repeat (first | (with_reducible assumption) | (with_reducible refine M.pcell_alloc ?_ _) | (with_reducible refine M.pcell_drewN ?_ _) | (with_reducible refine M.pcell_drew ?_) | (with_reducible refine M.pcell_far ?_ _ _ ?hFar; case hFar => (first | omega | ((try simp [go_sem]) <;> omega))) | fail)))
        have V12_a : M.Var w12 (w.heap.size) #[.int .i64 a.shape, .int .i64 a.sx, .int .i64 a.sy, .int .i64 a.mass, .int .i64 a.px, .int .i64 a.py, .int .i64 a.mx, .int .i64 a.my] := M.var_rw (by (repeat (first | (with_reducible assumption) | (with_reducible apply M.var_set45) | (with_reducible apply M.var_setBd) | (with_reducible apply M.var_setV) | (with_reducible refine M.var_alloc' _ _ _ ?_; first | rfl | (focus (simp [go_sem]; done))) | (with_reducible refine M.Var.alloc ?_ _) | (with_reducible refine M.Var.drewN ?_ _) | (with_reducible refine M.Var.drew ?_) | (with_reducible refine M.Var.far ?_ _ _ ?hFar; case hFar => (first | omega | ((try simp [go_sem]) <;> omega))) | fail))) (by omega) hb
        have q12_a_0 : w12.cell? ⟨w.heap.size, 0, none⟩ = some (.int .i64 a.shape) := V12_a.c 0 _ rfl
        have q12_a_1 : w12.cell? ⟨w.heap.size, 1, none⟩ = some (.int .i64 a.sx) := V12_a.c 1 _ rfl
        have q12_a_2 : w12.cell? ⟨w.heap.size, 2, none⟩ = some (.int .i64 a.sy) := V12_a.c 2 _ rfl
        have q12_a_3 : w12.cell? ⟨w.heap.size, 3, none⟩ = some (.int .i64 a.mass) := V12_a.c 3 _ rfl
        have q12_a_4 : w12.cell? ⟨w.heap.size, 4, none⟩ = some (.int .i64 a.px) := V12_a.c 4 _ rfl
        have q12_a_5 : w12.cell? ⟨w.heap.size, 5, none⟩ = some (.int .i64 a.py) := V12_a.c 5 _ rfl
        have q12_a_6 : w12.cell? ⟨w.heap.size, 6, none⟩ = some (.int .i64 a.mx) := V12_a.c 6 _ rfl
        have q12_a_7 : w12.cell? ⟨w.heap.size, 7, none⟩ = some (.int .i64 a.my) := V12_a.c 7 _ rfl
        have f12_a := V12_a.2.2
        have L12_a := V12_a.lt
        have N12_a := Nat.ne_of_gt L12_a
        have M12_a := Nat.ne_of_lt L12_a
        have V12_b : M.Var w12 (w.heap.size + 1) #[.int .i64 b.shape, .int .i64 b.sx, .int .i64 b.sy, .int .i64 b.mass, .int .i64 b.px, .int .i64 b.py, .int .i64 b.mx, .int .i64 b.my] := M.var_rw (by (repeat (first | (with_reducible assumption) | (with_reducible apply M.var_set45) | (with_reducible apply M.var_setBd) | (with_reducible apply M.var_setV) | (with_reducible refine M.var_alloc' _ _ _ ?_; first | rfl | (focus (simp [go_sem]; done))) | (with_reducible refine M.Var.alloc ?_ _) | (with_reducible refine M.Var.drewN ?_ _) | (with_reducible refine M.Var.drew ?_) | (with_reducible refine M.Var.far ?_ _ _ ?hFar; case hFar => (first | omega | ((try simp [go_sem]) <;> omega))) | fail))) (by omega) hb
        have q12_b_0 : w12.cell? ⟨w.heap.size + 1, 0, none⟩ = some (.int .i64 b.shape) := V12_b.c 0 _ rfl
        have q12_b_1 : w12.cell? ⟨w.heap.size + 1, 1, none⟩ = some (.int .i64 b.sx) := V12_b.c 1 _ rfl
        have q12_b_2 : w12.cell? ⟨w.heap.size + 1, 2, none⟩ = some (.int .i64 b.sy) := V12_b.c 2 _ rfl
        have q12_b_3 : w12.cell? ⟨w.heap.size + 1, 3, none⟩ = some (.int .i64 b.mass) := V12_b.c 3 _ rfl
        have q12_b_4 : w12.cell? ⟨w.heap.size + 1, 4, none⟩ = some (.int .i64 b.px) := V12_b.c 4 _ rfl
        have q12_b_5 : w12.cell? ⟨w.heap.size + 1, 5, none⟩ = some (.int .i64 b.py) := V12_b.c 5 _ rfl
        have q12_b_6 : w12.cell? ⟨w.heap.size + 1, 6, none⟩ = some (.int .i64 b.mx) := V12_b.c 6 _ rfl
        have q12_b_7 : w12.cell? ⟨w.heap.size + 1, 7, none⟩ = some (.int .i64 b.my) := V12_b.c 7 _ rfl
        have f12_b := V12_b.2.2
        have L12_b := V12_b.lt
        have N12_b := Nat.ne_of_gt L12_b
        have M12_b := Nat.ne_of_lt L12_b
        have V12_h : M.Var w12 (w.heap.size + 1 + 1) #[.int .i64 h.nx, .int .i64 h.ny, .int .i64 h.d] := M.var_rw (by (repeat (first | (with_reducible assumption) | (with_reducible apply M.var_set45) | (with_reducible apply M.var_setBd) | (with_reducible apply M.var_setV) | (with_reducible refine M.var_alloc' _ _ _ ?_; first | rfl | (focus (simp [go_sem]; done))) | (with_reducible refine M.Var.alloc ?_ _) | (with_reducible refine M.Var.drewN ?_ _) | (with_reducible refine M.Var.drew ?_) | (with_reducible refine M.Var.far ?_ _ _ ?hFar; case hFar => (first | omega | ((try simp [go_sem]) <;> omega))) | fail))) (by omega) hb
        have q12_h_0 : w12.cell? ⟨w.heap.size + 1 + 1, 0, none⟩ = some (.int .i64 h.nx) := V12_h.c 0 _ rfl
        have q12_h_1 : w12.cell? ⟨w.heap.size + 1 + 1, 1, none⟩ = some (.int .i64 h.ny) := V12_h.c 1 _ rfl
        have q12_h_2 : w12.cell? ⟨w.heap.size + 1 + 1, 2, none⟩ = some (.int .i64 h.d) := V12_h.c 2 _ rfl
        have f12_h := V12_h.2.2
        have L12_h := V12_h.lt
        have N12_h := Nat.ne_of_gt L12_h
        have M12_h := Nat.ne_of_lt L12_h
        have V12_r : M.Var w12 (w.heap.size + 1 + 1 + 1) #[.int .i64 0, .int .i64 0, .int .i64 0, .int .i64 0, .int .i64 0, .int .i64 0, .int .i64 0, .int .i64 0] := M.var_rw (by (repeat (first | (with_reducible assumption) | (with_reducible apply M.var_set45) | (with_reducible apply M.var_setBd) | (with_reducible apply M.var_setV) | (with_reducible refine M.var_alloc' _ _ _ ?_; first | rfl | (focus (simp [go_sem]; done))) | (with_reducible refine M.Var.alloc ?_ _) | (with_reducible refine M.Var.drewN ?_ _) | (with_reducible refine M.Var.drew ?_) | (with_reducible refine M.Var.far ?_ _ _ ?hFar; case hFar => (first | omega | ((try simp [go_sem]) <;> omega))) | fail))) (by omega) hb
        have q12_r_0 : w12.cell? ⟨w.heap.size + 1 + 1 + 1, 0, none⟩ = some (.int .i64 0) := V12_r.c 0 _ rfl
        have q12_r_1 : w12.cell? ⟨w.heap.size + 1 + 1 + 1, 1, none⟩ = some (.int .i64 0) := V12_r.c 1 _ rfl
        have q12_r_2 : w12.cell? ⟨w.heap.size + 1 + 1 + 1, 2, none⟩ = some (.int .i64 0) := V12_r.c 2 _ rfl
        have q12_r_3 : w12.cell? ⟨w.heap.size + 1 + 1 + 1, 3, none⟩ = some (.int .i64 0) := V12_r.c 3 _ rfl
        have q12_r_4 : w12.cell? ⟨w.heap.size + 1 + 1 + 1, 4, none⟩ = some (.int .i64 0) := V12_r.c 4 _ rfl
        have q12_r_5 : w12.cell? ⟨w.heap.size + 1 + 1 + 1, 5, none⟩ = some (.int .i64 0) := V12_r.c 5 _ rfl
        have q12_r_6 : w12.cell? ⟨w.heap.size + 1 + 1 + 1, 6, none⟩ = some (.int .i64 0) := V12_r.c 6 _ rfl
        have q12_r_7 : w12.cell? ⟨w.heap.size + 1 + 1 + 1, 7, none⟩ = some (.int .i64 0) := V12_r.c 7 _ rfl
        have f12_r := V12_r.2.2
        have L12_r := V12_r.lt
        have N12_r := Nat.ne_of_gt L12_r
        have M12_r := Nat.ne_of_lt L12_r
        have V12_s : M.Var w12 (w.heap.size + 1 + 1 + 1 + 1) #[.int .i64 0, .int .i64 0, .int .i64 0, .int .i64 0, .int .i64 0, .int .i64 0, .int .i64 0, .int .i64 0] := M.var_rw (by (repeat (first | (with_reducible assumption) | (with_reducible apply M.var_set45) | (with_reducible apply M.var_setBd) | (with_reducible apply M.var_setV) | (with_reducible refine M.var_alloc' _ _ _ ?_; first | rfl | (focus (simp [go_sem]; done))) | (with_reducible refine M.Var.alloc ?_ _) | (with_reducible refine M.Var.drewN ?_ _) | (with_reducible refine M.Var.drew ?_) | (with_reducible refine M.Var.far ?_ _ _ ?hFar; case hFar => (first | omega | ((try simp [go_sem]) <;> omega))) | fail))) (by omega) hb
        have q12_s_0 : w12.cell? ⟨w.heap.size + 1 + 1 + 1 + 1, 0, none⟩ = some (.int .i64 0) := V12_s.c 0 _ rfl
        have q12_s_1 : w12.cell? ⟨w.heap.size + 1 + 1 + 1 + 1, 1, none⟩ = some (.int .i64 0) := V12_s.c 1 _ rfl
        have q12_s_2 : w12.cell? ⟨w.heap.size + 1 + 1 + 1 + 1, 2, none⟩ = some (.int .i64 0) := V12_s.c 2 _ rfl
        have q12_s_3 : w12.cell? ⟨w.heap.size + 1 + 1 + 1 + 1, 3, none⟩ = some (.int .i64 0) := V12_s.c 3 _ rfl
        have q12_s_4 : w12.cell? ⟨w.heap.size + 1 + 1 + 1 + 1, 4, none⟩ = some (.int .i64 0) := V12_s.c 4 _ rfl
        have q12_s_5 : w12.cell? ⟨w.heap.size + 1 + 1 + 1 + 1, 5, none⟩ = some (.int .i64 0) := V12_s.c 5 _ rfl
        have q12_s_6 : w12.cell? ⟨w.heap.size + 1 + 1 + 1 + 1, 6, none⟩ = some (.int .i64 0) := V12_s.c 6 _ rfl
        have q12_s_7 : w12.cell? ⟨w.heap.size + 1 + 1 + 1 + 1, 7, none⟩ = some (.int .i64 0) := V12_s.c 7 _ rfl
        have f12_s := V12_s.2.2
        have L12_s := V12_s.lt
        have N12_s := Nat.ne_of_gt L12_s
        have M12_s := Nat.ne_of_lt L12_s
        clear V11_a f11_a L11_a N11_a M11_a q11_a_0 q11_a_1 q11_a_2 q11_a_3 q11_a_4 q11_a_5 q11_a_6 q11_a_7 V11_b f11_b L11_b N11_b M11_b q11_b_0 q11_b_1 q11_b_2 q11_b_3 q11_b_4 q11_b_5 q11_b_6 q11_b_7 V11_h f11_h L11_h N11_h M11_h q11_h_0 q11_h_1 q11_h_2 V11_r f11_r L11_r N11_r M11_r q11_r_0 q11_r_1 q11_r_2 q11_r_3 q11_r_4 q11_r_5 q11_r_6 q11_r_7 V11_s f11_s L11_s N11_s M11_s q11_s_0 q11_s_1 q11_s_2 q11_s_3 q11_s_4 q11_s_5 q11_s_6 q11_s_7 PC11 c11_pb f11_pb L11_pb N11_pb M11_pb
        have HR12 := Lib.hid hr; clear hr
        have c12_pb := PC12.2.1; have f12_pb := PC12.2.2; have L12_pb := PC12.1; have N12_pb := Nat.ne_of_gt L12_pb; have M12_pb := Nat.ne_of_lt L12_pb
        have HG12 := Lib.hid G12; clear G12 hb
        (try go_simp)
        refine hK.out _ _ (Lib.hid ⟨(fun _ => by (repeat (first | (with_reducible assumption) | (with_reducible apply M.var_set45) | (with_reducible apply M.var_setBd) | (with_reducible apply M.var_setV) | (with_reducible refine M.var_alloc' _ _ _ ?_; first | rfl | (focus (simp [go_sem]; done))) | (with_reducible refine M.Var.alloc ?_ _) | (with_reducible refine M.Var.drewN ?_ _) | (with_reducible refine M.Var.drew ?_) | (with_reducible refine M.Var.far ?_ _ _ ?hFar; case hFar => (first | omega | ((try simp [go_sem]) <;> omega))) | fail))), (fun _ => by (repeat (first | (with_reducible assumption) | (with_reducible apply M.var_set45) | (with_reducible apply M.var_setBd) | (with_reducible apply M.var_setV) | (with_reducible refine M.var_alloc' _ _ _ ?_; first | rfl | (focus (simp [go_sem]; done))) | (with_reducible refine M.Var.alloc ?_ _) | (with_reducible refine M.Var.drewN ?_ _) | (with_reducible refine M.Var.drew ?_) | (with_reducible refine M.Var.far ?_ _ _ ?hFar; case hFar => (first | omega | ((try simp [go_sem]) <;> omega))) | fail))), (by (repeat (first | (with_reducible assumption) | (with_reducible apply M.var_set45) | (with_reducible apply M.var_setBd) | (with_reducible apply M.var_setV) | (with_reducible refine M.var_alloc' _ _ _ ?_; first | rfl | (focus (simp [go_sem]; done))) | (with_reducible refine M.Var.alloc ?_ _) | (with_reducible refine M.Var.drewN ?_ _) | (with_reducible refine M.Var.drew ?_) | (with_reducible refine M.Var.far ?_ _ _ ?hFar; case hFar => (first | omega | ((try simp [go_sem]) <;> omega))) | fail))), trivial⟩) ?_
        clear hK K hTb hTS; intro hTb hTS
        try simp only [Act.put, List.setIfInBounds_toArray, List.set_cons_zero, List.set_cons_succ]
        refine wpTill_one (i := 8) (by kernel_rfl) rfl hTb (fun K hK => ?_)
        go_simp
        (with_reducible refine (CE.out e12 _ _ igx igy _ (by (repeat (first | (with_reducible assumption) | (with_reducible refine M.pcell_alloc ?_ _) | (with_reducible refine M.pcell_drewN ?_ _) | (with_reducible refine M.pcell_drew ?_) | (with_reducible refine M.pcell_far ?_ _ _ ?hFar; case hFar => (first | omega | ((try simp [go_sem]) <;> omega))) | fail)))).mono ?_); rintro en w13 ⟨u1, u2, e13, rfl, iu1, iu2, hr, hb⟩
        have G13 : M.RW pb e13 w w13 := M.rw_step (by have G := HG12.out; (repeat (with_reducible refine M.Below.drewN ?_ _)); go_grown) hb hpb
        have S13 : w.heap.size ≤ w13.heap.size := by have := G13.size; rwa [M.setCell_size] at this
        have PC13 : M.PCell w13 pb e13 := M.pcell_behind hb (e := e12) (by (repeat (first | (with_reducible assumption) | (with_reducible refine M.pcell_alloc ?_ _) | (with_reducible refine M.pcell_drewN ?_ _) | (with_reducible refine M.pcell_drew ?_) | (with_reducible refine M.pcell_far ?_ _ _ ?hFar; case hFar => (first | omega | ((try simp [go_sem]) <;> omega))) | fail)))
        have V13_a : M.Var w13 (w.heap.size) #[.int .i64 a.shape, .int .i64 a.sx, .int .i64 a.sy, .int .i64 a.mass, .int .i64 a.px, .int .i64 a.py, .int .i64 a.mx, .int .i64 a.my] := M.var_rw (by (repeat (first | (with_reducible assumption) | (with_reducible apply M.var_set45) | (with_reducible apply M.var_setBd) | (with_reducible apply M.var_setV) | (with_reducible refine M.var_alloc' _ _ _ ?_; first | rfl | (focus (simp [go_sem]; done))) | (with_reducible refine M.Var.alloc ?_ _) | (with_reducible refine M.Var.drewN ?_ _) | (with_reducible refine M.Var.drew ?_) | (with_reducible refine M.Var.far ?_ _ _ ?hFar; case hFar => (first | omega | ((try simp [go_sem]) <;> omega))) | fail))) (by omega) hb
        have q13_a_0 : w13.cell? ⟨w.heap.size, 0, none⟩ = some (.int .i64 a.shape) := V13_a.c 0 _ rfl
        have q13_a_1 : w13.cell? ⟨w.heap.size, 1, none⟩ = some (.int .i64 a.sx) := V13_a.c 1 _ rfl
        have q13_a_2 : w13.cell? ⟨w.heap.size, 2, none⟩ = some (.int .i64 a.sy) := V13_a.c 2 _ rfl
        have q13_a_3 : w13.cell? ⟨w.heap.size, 3, none⟩ = some (.int .i64 a.mass) := V13_a.c 3 _ rfl
        have q13_a_4 : w13.cell? ⟨w.heap.size, 4, none⟩ = some (.int .i64 a.px) := V13_a.c 4 _ rfl
        have q13_a_5 : w13.cell? ⟨w.heap.size, 5, none⟩ = some (.int .i64 a.py) := V13_a.c 5 _ rfl
        have q13_a_6 : w13.cell? ⟨w.heap.size, 6, none⟩ = some (.int .i64 a.mx) := V13_a.c 6 _ rfl
        have q13_a_7 : w13.cell? ⟨w.heap.size, 7, none⟩ = some (.int .i64 a.my) := V13_a.c 7 _ rfl
        have f13_a := V13_a.2.2
        have L13_a := V13_a.lt
        have N13_a := Nat.ne_of_gt L13_a
        have M13_a := Nat.ne_of_lt L13_a
        have V13_b : M.Var w13 (w.heap.size + 1) #[.int .i64 b.shape, .int .i64 b.sx, .int .i64 b.sy, .int .i64 b.mass, .int .i64 b.px, .int .i64 b.py, .int .i64 b.mx, .int .i64 b.my] := M.var_rw (by (repeat (first | (with_reducible assumption) | (with_reducible apply M.var_set45) | (with_reducible apply M.var_setBd) | (with_reducible apply M.var_setV) | (with_reducible refine M.var_alloc' _ _ _ ?_; first | rfl | (focus (simp [go_sem]; done))) | (with_reducible refine M.Var.alloc ?_ _) | (with_reducible refine M.Var.drewN ?_ _) | (with_reducible refine M.Var.drew ?_) | (with_reducible refine M.Var.far ?_ _ _ ?hFar; case hFar => (first | omega | ((try simp [go_sem]) <;> omega))) | fail))) (by omega) hb
        have q13_b_0 : w13.cell? ⟨w.heap.size + 1, 0, none⟩ = some (.int .i64 b.shape) := V13_b.c 0 _ rfl
        have q13_b_1 : w13.cell? ⟨w.heap.size + 1, 1, none⟩ = some (.int .i64 b.sx) := V13_b.c 1 _ rfl
        have q13_b_2 : w13.cell? ⟨w.heap.size + 1, 2, none⟩ = some (.int .i64 b.sy) := V13_b.c 2 _ rfl
        have q13_b_3 : w13.cell? ⟨w.heap.size + 1, 3, none⟩ = some (.int .i64 b.mass) := V13_b.c 3 _ rfl
        have q13_b_4 : w13.cell? ⟨w.heap.size + 1, 4, none⟩ = some (.int .i64 b.px) := V13_b.c 4 _ rfl
        have q13_b_5 : w13.cell? ⟨w.heap.size + 1, 5, none⟩ = some (.int .i64 b.py) := V13_b.c 5 _ rfl
        have q13_b_6 : w13.cell? ⟨w.heap.size + 1, 6, none⟩ = some (.int .i64 b.mx) := V13_b.c 6 _ rfl
        have q13_b_7 : w13.cell? ⟨w.heap.size + 1, 7, none⟩ = some (.int .i64 b.my) := V13_b.c 7 _ rfl
        have f13_b := V13_b.2.2
        have L13_b := V13_b.lt
        have N13_b := Nat.ne_of_gt L13_b
        have M13_b := Nat.ne_of_lt L13_b
        have V13_h : M.Var w13 (w.heap.size + 1 + 1) #[.int .i64 h.nx, .int .i64 h.ny, .int .i64 h.d] := M.var_rw (by (repeat (first | (with_reducible assumption) | (with_reducible apply M.var_set45) | (with_reducible apply M.var_setBd) | (with_reducible apply M.var_setV) | (with_reducible refine M.var_alloc' _ _ _ ?_; first | rfl | (focus (simp [go_sem]; done))) | (with_reducible refine M.Var.alloc ?_ _) | (with_reducible refine M.Var.drewN ?_ _) | (with_reducible refine M.Var.drew ?_) | (with_reducible refine M.Var.far ?_ _ _ ?hFar; case hFar => (first | omega | ((try simp [go_sem]) <;> omega))) | fail))) (by omega) hb
        have q13_h_0 : w13.cell? ⟨w.heap.size + 1 + 1, 0, none⟩ = some (.int .i64 h.nx) := V13_h.c 0 _ rfl
        have q13_h_1 : w13.cell? ⟨w.heap.size + 1 + 1, 1, none⟩ = some (.int .i64 h.ny) := V13_h.c 1 _ rfl
        have q13_h_2 : w13.cell? ⟨w.heap.size + 1 + 1, 2, none⟩ = some (.int .i64 h.d) := V13_h.c 2 _ rfl
        have f13_h := V13_h.2.2
        have L13_h := V13_h.lt
        have N13_h := Nat.ne_of_gt L13_h
        have M13_h := Nat.ne_of_lt L13_h
        have V13_r : M.Var w13 (w.heap.size + 1 + 1 + 1) #[.int .i64 0, .int .i64 0, .int .i64 0, .int .i64 0, .int .i64 0, .int .i64 0, .int .i64 0, .int .i64 0] := M.var_rw (by (repeat (first | (with_reducible assumption) | (with_reducible apply M.var_set45) | (with_reducible apply M.var_setBd) | (with_reducible apply M.var_setV) | (with_reducible refine M.var_alloc' _ _ _ ?_; first | rfl | (focus (simp [go_sem]; done))) | (with_reducible refine M.Var.alloc ?_ _) | (with_reducible refine M.Var.drewN ?_ _) | (with_reducible refine M.Var.drew ?_) | (with_reducible refine M.Var.far ?_ _ _ ?hFar; case hFar => (first | omega | ((try simp [go_sem]) <;> omega))) | fail))) (by omega) hb
        have q13_r_0 : w13.cell? ⟨w.heap.size + 1 + 1 + 1, 0, none⟩ = some (.int .i64 0) := V13_r.c 0 _ rfl
        have q13_r_1 : w13.cell? ⟨w.heap.size + 1 + 1 + 1, 1, none⟩ = some (.int .i64 0) := V13_r.c 1 _ rfl
        have q13_r_2 : w13.cell? ⟨w.heap.size + 1 + 1 + 1, 2, none⟩ = some (.int .i64 0) := V13_r.c 2 _ rfl
        have q13_r_3 : w13.cell? ⟨w.heap.size + 1 + 1 + 1, 3, none⟩ = some (.int .i64 0) := V13_r.c 3 _ rfl
        have q13_r_4 : w13.cell? ⟨w.heap.size + 1 + 1 + 1, 4, none⟩ = some (.int .i64 0) := V13_r.c 4 _ rfl
        have q13_r_5 : w13.cell? ⟨w.heap.size + 1 + 1 + 1, 5, none⟩ = some (.int .i64 0) := V13_r.c 5 _ rfl
        have q13_r_6 : w13.cell? ⟨w.heap.size + 1 + 1 + 1, 6, none⟩ = some (.int .i64 0) := V13_r.c 6 _ rfl
        have q13_r_7 : w13.cell? ⟨w.heap.size + 1 + 1 + 1, 7, none⟩ = some (.int .i64 0) := V13_r.c 7 _ rfl
        have f13_r := V13_r.2.2
        have L13_r := V13_r.lt
        have N13_r := Nat.ne_of_gt L13_r
        have M13_r := Nat.ne_of_lt L13_r
        have V13_s : M.Var w13 (w.heap.size + 1 + 1 + 1 + 1) #[.int .i64 0, .int .i64 0, .int .i64 0, .int .i64 0, .int .i64 0, .int .i64 0, .int .i64 0, .int .i64 0] := M.var_rw (by (repeat (first | (with_reducible assumption) | (with_reducible apply M.var_set45) | (with_reducible apply M.var_setBd) | (with_reducible apply M.var_setV) | (with_reducible refine M.var_alloc' _ _ _ ?_; first | rfl | (focus (simp [go_sem]; done))) | (with_reducible refine M.Var.alloc ?_ _) | (with_reducible refine M.Var.drewN ?_ _) | (with_reducible refine M.Var.drew ?_) | (with_reducible refine M.Var.far ?_ _ _ ?hFar; case hFar => (first | omega | ((try simp [go_sem]) <;> omega))) | fail))) (by omega) hb
        have q13_s_0 : w13.cell? ⟨w.heap.size + 1 + 1 + 1 + 1, 0, none⟩ = some (.int .i64 0) := V13_s.c 0 _ rfl
        have q13_s_1 : w13.cell? ⟨w.heap.size + 1 + 1 + 1 + 1, 1, none⟩ = some (.int .i64 0) := V13_s.c 1 _ rfl
        have q13_s_2 : w13.cell? ⟨w.heap.size + 1 + 1 + 1 + 1, 2, none⟩ = some (.int .i64 0) := V13_s.c 2 _ rfl
        have q13_s_3 : w13.cell? ⟨w.heap.size + 1 + 1 + 1 + 1, 3, none⟩ = some (.int .i64 0) := V13_s.c 3 _ rfl
        have q13_s_4 : w13.cell? ⟨w.heap.size + 1 + 1 + 1 + 1, 4, none⟩ = some (.int .i64 0) := V13_s.c 4 _ rfl
        have q13_s_5 : w13.cell? ⟨w.heap.size + 1 + 1 + 1 + 1, 5, none⟩ = some (.int .i64 0) := V13_s.c 5 _ rfl
        have q13_s_6 : w13.cell? ⟨w.heap.size + 1 + 1 + 1 + 1, 6, none⟩ = some (.int .i64 0) := V13_s.c 6 _ rfl
        have q13_s_7 : w13.cell? ⟨w.heap.size + 1 + 1 + 1 + 1, 7, none⟩ = some (.int .i64 0) := V13_s.c 7 _ rfl
        have f13_s := V13_s.2.2
        have L13_s := V13_s.lt
        have N13_s := Nat.ne_of_gt L13_s
        have M13_s := Nat.ne_of_lt L13_s
        clear V12_a f12_a L12_a N12_a M12_a q12_a_0 q12_a_1 q12_a_2 q12_a_3 q12_a_4 q12_a_5 q12_a_6 q12_a_7 V12_b f12_b L12_b N12_b M12_b q12_b_0 q12_b_1 q12_b_2 q12_b_3 q12_b_4 q12_b_5 q12_b_6 q12_b_7 V12_h f12_h L12_h N12_h M12_h q12_h_0 q12_h_1 q12_h_2 V12_r f12_r L12_r N12_r M12_r q12_r_0 q12_r_1 q12_r_2 q12_r_3 q12_r_4 q12_r_5 q12_r_6 q12_r_7 V12_s f12_s L12_s N12_s M12_s q12_s_0 q12_s_1 q12_s_2 q12_s_3 q12_s_4 q12_s_5 q12_s_6 q12_s_7 PC12 c12_pb f12_pb L12_pb N12_pb M12_pb
        have HR13 := Lib.hid hr; clear hr
        have c13_pb := PC13.2.1; have f13_pb := PC13.2.2; have L13_pb := PC13.1; have N13_pb := Nat.ne_of_gt L13_pb; have M13_pb := Nat.ne_of_lt L13_pb
        have HG13 := Lib.hid G13; clear G13 hb
        (try go_simp)
        refine hK.out _ _ (Lib.hid ⟨(fun _ => by (repeat (first | (with_reducible assumption) | (with_reducible apply M.var_set45) | (with_reducible apply M.var_setBd) | (with_reducible apply M.var_setV) | (with_reducible refine M.var_alloc' _ _ _ ?_; first | rfl | (focus (simp [go_sem]; done))) | (with_reducible refine M.Var.alloc ?_ _) | (with_reducible refine M.Var.drewN ?_ _) | (with_reducible refine M.Var.drew ?_) | (with_reducible refine M.Var.far ?_ _ _ ?hFar; case hFar => (first | omega | ((try simp [go_sem]) <;> omega))) | fail))), (fun _ => by (repeat (first | (with_reducible assumption) | (with_reducible apply M.var_set45) | (with_reducible apply M.var_setBd) | (with_reducible apply M.var_setV) | (with_reducible refine M.var_alloc' _ _ _ ?_; first | rfl | (focus (simp [go_sem]; done))) | (with_reducible refine M.Var.alloc ?_ _) | (with_reducible refine M.Var.drewN ?_ _) | (with_reducible refine M.Var.drew ?_) | (with_reducible refine M.Var.far ?_ _ _ ?hFar; case hFar => (first | omega | ((try simp [go_sem]) <;> omega))) | fail))), (by (repeat (first | (with_reducible assumption) | (with_reducible apply M.var_set45) | (with_reducible apply M.var_setBd) | (with_reducible apply M.var_setV) | (with_reducible refine M.var_alloc' _ _ _ ?_; first | rfl | (focus (simp [go_sem]; done))) | (with_reducible refine M.Var.alloc ?_ _) | (with_reducible refine M.Var.drewN ?_ _) | (with_reducible refine M.Var.drew ?_) | (with_reducible refine M.Var.far ?_ _ _ ?hFar; case hFar => (first | omega | ((try simp [go_sem]) <;> omega))) | fail))), trivial⟩) ?_
        clear hK K hTb hTS; intro hTb hTS
        try simp only [Act.put, List.setIfInBounds_toArray, List.set_cons_zero, List.set_cons_succ]
        refine wpTill_take (i := 9) (v := ?_) rfl (by kernel_rfl) (by kernel_rfl) (by kernel_rfl) hTb (fun _ _ _ h => h) (fun _ _ => by simp only [getD_set_ne false (show 9 ≠ 12 by decide), getD_set_ne false (show 9 ≠ 13 by decide)]) (Or.inl ⟨by rfl, ?_⟩) hTS ?_
        rotate_left
        · intro wT hT; clear hT
          go_simp
          all_goals with_reducible rfl
        clear hTb hTS; intro hTb hTS
        try simp only [Act.put, List.setIfInBounds_toArray, List.set_cons_zero, List.set_cons_succ]
        refine wpTill_take (i := 10) (v := ?_) rfl (by kernel_rfl) (by kernel_rfl) (by kernel_rfl) hTb (fun _ _ _ h => h) (fun _ _ => by simp only [getD_set_ne false (show 10 ≠ 12 by decide), getD_set_ne false (show 10 ≠ 13 by decide)]) (Or.inl ⟨by rfl, ?_⟩) hTS ?_
        rotate_left
        · intro wT hT; clear hT
          go_simp
          all_goals with_reducible rfl
        clear hTb hTS; intro hTb hTS
        try simp only [Act.put, List.setIfInBounds_toArray, List.set_cons_zero, List.set_cons_succ]
        refine wpTill_take (i := 11) (v := ?_) rfl (by kernel_rfl) (by kernel_rfl) (by kernel_rfl) hTb (fun _ _ _ h => h) (fun _ _ => by simp only [getD_set_ne false (show 11 ≠ 12 by decide), getD_set_ne false (show 11 ≠ 13 by decide)]) (Or.inl ⟨by rfl, ?_⟩) hTS ?_
        rotate_left
        · intro wT hT; clear hT
          go_simp
          all_goals with_reducible rfl
        clear hTb hTS; intro hTb hTS
        try simp only [Act.put, List.setIfInBounds_toArray, List.set_cons_zero, List.set_cons_succ]
        refine wpTill_one (i := 12) (by kernel_rfl) rfl hTb (fun K hK => ?_)
        go_simp
        (try go_simp)
        refine hK.out _ _ (Lib.hid ⟨till_gone (by kernel_rfl), (fun _ => by (repeat (first | (with_reducible assumption) | (with_reducible apply M.var_set45) | (with_reducible apply M.var_setBd) | (with_reducible apply M.var_setV) | (with_reducible refine M.var_alloc' _ _ _ ?_; first | rfl | (focus (simp [go_sem]; done))) | (with_reducible refine M.Var.alloc ?_ _) | (with_reducible refine M.Var.drewN ?_ _) | (with_reducible refine M.Var.drew ?_) | (with_reducible refine M.Var.far ?_ _ _ ?hFar; case hFar => (first | omega | ((try simp [go_sem]) <;> omega))) | fail))), (by (repeat (first | (with_reducible assumption) | (with_reducible apply M.var_set45) | (with_reducible apply M.var_setBd) | (with_reducible apply M.var_setV) | (with_reducible refine M.var_alloc' _ _ _ ?_; first | rfl | (focus (simp [go_sem]; done))) | (with_reducible refine M.Var.alloc ?_ _) | (with_reducible refine M.Var.drewN ?_ _) | (with_reducible refine M.Var.drew ?_) | (with_reducible refine M.Var.far ?_ _ _ ?hFar; case hFar => (first | omega | ((try simp [go_sem]) <;> omega))) | fail))), trivial⟩) ?_
        clear hK K hTb hTS; intro hTb hTS
        try simp only [Act.put, List.setIfInBounds_toArray, List.set_cons_zero, List.set_cons_succ]
        refine wpTill_one (i := 13) (by kernel_rfl) rfl hTb (fun K hK => ?_)
        go_simp
        (try go_simp)
        refine hK.out _ _ (Lib.hid ⟨till_gone (by kernel_rfl), till_gone (by kernel_rfl), (by (repeat (first | (with_reducible assumption) | (with_reducible apply M.var_set45) | (with_reducible apply M.var_setBd) | (with_reducible apply M.var_setV) | (with_reducible refine M.var_alloc' _ _ _ ?_; first | rfl | (focus (simp [go_sem]; done))) | (with_reducible refine M.Var.alloc ?_ _) | (with_reducible refine M.Var.drewN ?_ _) | (with_reducible refine M.Var.drew ?_) | (with_reducible refine M.Var.far ?_ _ _ ?hFar; case hFar => (first | omega | ((try simp [go_sem]) <;> omega))) | fail))), trivial⟩) ?_
        clear hK K hTb hTS; intro hTb hTS
        try simp only [Act.put, List.setIfInBounds_toArray, List.set_cons_zero, List.set_cons_succ]
        refine wpTill_done (by kernel_rfl) ?_ _; clear hTb hTS
        go_wp2_with (with_reducible refine M.stopPost ?_)
        have HW := Lib.hid (show M.Rel e7 (addX v (v.tdiv 2)) xt e9 from by have := rel_bind (Q := fun p => addX v p) HR8.out HR9.out; rw [part2] at this; exact this)
        have HX := Lib.hid (show M.Rel e7 (bounceX a b (h.nx, h.ny) k v) (u1, u2) e13 from by unfold bounceX; rw [if_pos hv0]; exact rel_bind HW.out (rel_bind HR10.out (rel_bind HR11.out (rel_bind HR12.out HR13.out))))
        have HY := Lib.hid (show e13 = 0 → lightX u1 = .ok la ∧ lightX u2 = .ok lb from fun h0 => by
          obtain ⟨_, p⟩ := rel_zero HR13.out h0
          obtain ⟨m1, m2⟩ := pushed_mass (applyX_ok p)
          obtain ⟨l1, l2⟩ := HM.out (rel_zero HX.out h0).1
          exact ⟨(light_mass m1).trans l1, (light_mass m2).trans l2⟩)
        go_meet
        case rel => exact ⟨u1, u2, e13, iu1, iu2, HX, HY, Lib.hid (by have G := HG13.out; (repeat (with_reducible refine M.Below.drewN ?_ _)); go_grown), by (repeat (first | (with_reducible assumption) | (with_reducible refine M.pcell_alloc ?_ _) | (with_reducible refine M.pcell_drewN ?_ _) | (with_reducible refine M.pcell_drew ?_) | (with_reducible refine M.pcell_far ?_ _ _ ?hFar; case hFar => (first | omega | ((try simp [go_sem]) <;> omega))) | fail)), by (repeat (first | (with_reducible assumption) | (with_reducible apply M.var_set45) | (with_reducible apply M.var_setBd) | (with_reducible apply M.var_setV) | (with_reducible refine M.var_alloc' _ _ _ ?_; first | rfl | (focus (simp [go_sem]; done))) | (with_reducible refine M.Var.alloc ?_ _) | (with_reducible refine M.Var.drewN ?_ _) | (with_reducible refine M.Var.drew ?_) | (with_reducible refine M.Var.far ?_ _ _ ?hFar; case hFar => (first | omega | ((try simp [go_sem]) <;> omega))) | fail)), by (repeat (first | (with_reducible assumption) | (with_reducible apply M.var_set45) | (with_reducible apply M.var_setBd) | (with_reducible apply M.var_setV) | (with_reducible refine M.var_alloc' _ _ _ ?_; first | rfl | (focus (simp [go_sem]; done))) | (with_reducible refine M.Var.alloc ?_ _) | (with_reducible refine M.Var.drewN ?_ _) | (with_reducible refine M.Var.drew ?_) | (with_reducible refine M.Var.far ?_ _ _ ?hFar; case hFar => (first | omega | ((try simp [go_sem]) <;> omega))) | fail)), by (repeat (first | (with_reducible assumption) | (with_reducible apply M.var_set45) | (with_reducible apply M.var_setBd) | (with_reducible apply M.var_setV) | (with_reducible refine M.var_alloc' _ _ _ ?_; first | rfl | (focus (simp [go_sem]; done))) | (with_reducible refine M.Var.alloc ?_ _) | (with_reducible refine M.Var.drewN ?_ _) | (with_reducible refine M.Var.drew ?_) | (with_reducible refine M.Var.far ?_ _ _ ?hFar; case hFar => (first | omega | ((try simp [go_sem]) <;> omega))) | fail)), by (repeat (first | (with_reducible assumption) | (with_reducible apply M.var_set45) | (with_reducible apply M.var_setBd) | (with_reducible apply M.var_setV) | (with_reducible refine M.var_alloc' _ _ _ ?_; first | rfl | (focus (simp [go_sem]; done))) | (with_reducible refine M.Var.alloc ?_ _) | (with_reducible refine M.Var.drewN ?_ _) | (with_reducible refine M.Var.drew ?_) | (with_reducible refine M.Var.far ?_ _ _ ?hFar; case hFar => (first | omega | ((try simp [go_sem]) <;> omega))) | fail)), by (repeat (first | (with_reducible assumption) | (with_reducible apply M.var_set45) | (with_reducible apply M.var_setBd) | (with_reducible apply M.var_setV) | (with_reducible refine M.var_alloc' _ _ _ ?_; first | rfl | (focus (simp [go_sem]; done))) | (with_reducible refine M.Var.alloc ?_ _) | (with_reducible refine M.Var.drewN ?_ _) | (with_reducible refine M.Var.drew ?_) | (with_reducible refine M.Var.far ?_ _ _ ?hFar; case hFar => (first | omega | ((try simp [go_sem]) <;> omega))) | fail))⟩
      · have hv0 : ¬ v < 0 := by omega
        go_meet
        case rel => exact ⟨a, b, e7, HA.out, HB.out, Lib.hid (by unfold bounceX; rw [if_neg hv0]; exact rel_ok _ _), HM, Lib.hid (by have G := HG7.out; (repeat (with_reducible refine M.Below.drewN ?_ _)); go_grown), by (repeat (first | (with_reducible assumption) | (with_reducible refine M.pcell_alloc ?_ _) | (with_reducible refine M.pcell_drewN ?_ _) | (with_reducible refine M.pcell_drew ?_) | (with_reducible refine M.pcell_far ?_ _ _ ?hFar; case hFar => (first | omega | ((try simp [go_sem]) <;> omega))) | fail)), by (repeat (first | (with_reducible assumption) | (with_reducible apply M.var_set45) | (with_reducible apply M.var_setBd) | (with_reducible apply M.var_setV) | (with_reducible refine M.var_alloc' _ _ _ ?_; first | rfl | (focus (simp [go_sem]; done))) | (with_reducible refine M.Var.alloc ?_ _) | (with_reducible refine M.Var.drewN ?_ _) | (with_reducible refine M.Var.drew ?_) | (with_reducible refine M.Var.far ?_ _ _ ?hFar; case hFar => (first | omega | ((try simp [go_sem]) <;> omega))) | fail)), by (repeat (first | (with_reducible assumption) | (with_reducible apply M.var_set45) | (with_reducible apply M.var_setBd) | (with_reducible apply M.var_setV) | (with_reducible refine M.var_alloc' _ _ _ ?_; first | rfl | (focus (simp [go_sem]; done))) | (with_reducible refine M.Var.alloc ?_ _) | (with_reducible refine M.Var.drewN ?_ _) | (with_reducible refine M.Var.drew ?_) | (with_reducible refine M.Var.far ?_ _ _ ?hFar; case hFar => (first | omega | ((try simp [go_sem]) <;> omega))) | fail)), by (repeat (first | (with_reducible assumption) | (with_reducible apply M.var_set45) | (with_reducible apply M.var_setBd) | (with_reducible apply M.var_setV) | (with_reducible refine M.var_alloc' _ _ _ ?_; first | rfl | (focus (simp [go_sem]; done))) | (with_reducible refine M.Var.alloc ?_ _) | (with_reducible refine M.Var.drewN ?_ _) | (with_reducible refine M.Var.drew ?_) | (with_reducible refine M.Var.far ?_ _ _ ?hFar; case hFar => (first | omega | ((try simp [go_sem]) <;> omega))) | fail)), by (repeat (first | (with_reducible assumption) | (with_reducible apply M.var_set45) | (with_reducible apply M.var_setBd) | (with_reducible apply M.var_setV) | (with_reducible refine M.var_alloc' _ _ _ ?_; first | rfl | (focus (simp [go_sem]; done))) | (with_reducible refine M.Var.alloc ?_ _) | (with_reducible refine M.Var.drewN ?_ _) | (with_reducible refine M.Var.drew ?_) | (with_reducible refine M.Var.far ?_ _ _ ?hFar; case hFar => (first | omega | ((try simp [go_sem]) <;> omega))) | fail)), by (repeat (first | (with_reducible assumption) | (with_reducible apply M.var_set45) | (with_reducible apply M.var_setBd) | (with_reducible apply M.var_setV) | (with_reducible refine M.var_alloc' _ _ _ ?_; first | rfl | (focus (simp [go_sem]; done))) | (with_reducible refine M.Var.alloc ?_ _) | (with_reducible refine M.Var.drewN ?_ _) | (with_reducible refine M.Var.drew ?_) | (with_reducible refine M.Var.far ?_ _ _ ?hFar; case hFar => (first | omega | ((try simp [go_sem]) <;> omega))) | fail))⟩
    case rest =>
      obtain ⟨c1, c2, ed, i1, i2, hx, hm, HGd, PCd, Vd_a, Vd_b, Vd_h, Vd_r, Vd_s⟩ := hcut
      have Sd : w.heap.size ≤ wc.heap.size := by have := HGd.out.size; rwa [M.setCell_size] at this
      have cd_pb := PCd.2.1; have fd_pb := PCd.2.2; have Ld_pb := PCd.1; have Nd_pb := Nat.ne_of_gt Ld_pb; have Md_pb := Nat.ne_of_lt Ld_pb
      clear V7_a f7_a L7_a N7_a M7_a q7_a_0 q7_a_1 q7_a_2 q7_a_3 q7_a_4 q7_a_5 q7_a_6 q7_a_7 V7_b f7_b L7_b N7_b M7_b q7_b_0 q7_b_1 q7_b_2 q7_b_3 q7_b_4 q7_b_5 q7_b_6 q7_b_7 V7_h f7_h L7_h N7_h M7_h q7_h_0 q7_h_1 q7_h_2 V7_r f7_r L7_r N7_r M7_r q7_r_0 q7_r_1 q7_r_2 q7_r_3 q7_r_4 q7_r_5 q7_r_6 q7_r_7 V7_s f7_s L7_s N7_s M7_s q7_s_0 q7_s_1 q7_s_2 q7_s_3 q7_s_4 q7_s_5 q7_s_6 q7_s_7 V7_sb f7_sb L7_sb N7_sb M7_sb q7_sb_0 q7_sb_1 V7_sa f7_sa L7_sa N7_sa M7_sa q7_sa_0 q7_sa_1 PC7 c7_pb f7_pb L7_pb N7_pb M7_pb
      have qd_a_0 : wc.cell? ⟨w.heap.size, 0, none⟩ = some (.int .i64 c1.shape) := Vd_a.c 0 _ rfl
      have qd_a_1 : wc.cell? ⟨w.heap.size, 1, none⟩ = some (.int .i64 c1.sx) := Vd_a.c 1 _ rfl
      have qd_a_2 : wc.cell? ⟨w.heap.size, 2, none⟩ = some (.int .i64 c1.sy) := Vd_a.c 2 _ rfl
      have qd_a_3 : wc.cell? ⟨w.heap.size, 3, none⟩ = some (.int .i64 c1.mass) := Vd_a.c 3 _ rfl
      have qd_a_4 : wc.cell? ⟨w.heap.size, 4, none⟩ = some (.int .i64 c1.px) := Vd_a.c 4 _ rfl
      have qd_a_5 : wc.cell? ⟨w.heap.size, 5, none⟩ = some (.int .i64 c1.py) := Vd_a.c 5 _ rfl
      have qd_a_6 : wc.cell? ⟨w.heap.size, 6, none⟩ = some (.int .i64 c1.mx) := Vd_a.c 6 _ rfl
      have qd_a_7 : wc.cell? ⟨w.heap.size, 7, none⟩ = some (.int .i64 c1.my) := Vd_a.c 7 _ rfl
      have fd_a := Vd_a.2.2; have Ld_a := Vd_a.lt; have Nd_a := Nat.ne_of_gt Ld_a; have Md_a := Nat.ne_of_lt Ld_a
      have qd_b_0 : wc.cell? ⟨w.heap.size + 1, 0, none⟩ = some (.int .i64 c2.shape) := Vd_b.c 0 _ rfl
      have qd_b_1 : wc.cell? ⟨w.heap.size + 1, 1, none⟩ = some (.int .i64 c2.sx) := Vd_b.c 1 _ rfl
      have qd_b_2 : wc.cell? ⟨w.heap.size + 1, 2, none⟩ = some (.int .i64 c2.sy) := Vd_b.c 2 _ rfl
      have qd_b_3 : wc.cell? ⟨w.heap.size + 1, 3, none⟩ = some (.int .i64 c2.mass) := Vd_b.c 3 _ rfl
      have qd_b_4 : wc.cell? ⟨w.heap.size + 1, 4, none⟩ = some (.int .i64 c2.px) := Vd_b.c 4 _ rfl
      have qd_b_5 : wc.cell? ⟨w.heap.size + 1, 5, none⟩ = some (.int .i64 c2.py) := Vd_b.c 5 _ rfl
      have qd_b_6 : wc.cell? ⟨w.heap.size + 1, 6, none⟩ = some (.int .i64 c2.mx) := Vd_b.c 6 _ rfl
      have qd_b_7 : wc.cell? ⟨w.heap.size + 1, 7, none⟩ = some (.int .i64 c2.my) := Vd_b.c 7 _ rfl
      have fd_b := Vd_b.2.2; have Ld_b := Vd_b.lt; have Nd_b := Nat.ne_of_gt Ld_b; have Md_b := Nat.ne_of_lt Ld_b
      have qd_h_0 : wc.cell? ⟨w.heap.size + 1 + 1, 0, none⟩ = some (.int .i64 h.nx) := Vd_h.c 0 _ rfl
      have qd_h_1 : wc.cell? ⟨w.heap.size + 1 + 1, 1, none⟩ = some (.int .i64 h.ny) := Vd_h.c 1 _ rfl
      have qd_h_2 : wc.cell? ⟨w.heap.size + 1 + 1, 2, none⟩ = some (.int .i64 h.d) := Vd_h.c 2 _ rfl
      have fd_h := Vd_h.2.2; have Ld_h := Vd_h.lt; have Nd_h := Nat.ne_of_gt Ld_h; have Md_h := Nat.ne_of_lt Ld_h
      have qd_r_0 : wc.cell? ⟨w.heap.size + 1 + 1 + 1, 0, none⟩ = some (.int .i64 0) := Vd_r.c 0 _ rfl
      have qd_r_1 : wc.cell? ⟨w.heap.size + 1 + 1 + 1, 1, none⟩ = some (.int .i64 0) := Vd_r.c 1 _ rfl
      have qd_r_2 : wc.cell? ⟨w.heap.size + 1 + 1 + 1, 2, none⟩ = some (.int .i64 0) := Vd_r.c 2 _ rfl
      have qd_r_3 : wc.cell? ⟨w.heap.size + 1 + 1 + 1, 3, none⟩ = some (.int .i64 0) := Vd_r.c 3 _ rfl
      have qd_r_4 : wc.cell? ⟨w.heap.size + 1 + 1 + 1, 4, none⟩ = some (.int .i64 0) := Vd_r.c 4 _ rfl
      have qd_r_5 : wc.cell? ⟨w.heap.size + 1 + 1 + 1, 5, none⟩ = some (.int .i64 0) := Vd_r.c 5 _ rfl
      have qd_r_6 : wc.cell? ⟨w.heap.size + 1 + 1 + 1, 6, none⟩ = some (.int .i64 0) := Vd_r.c 6 _ rfl
      have qd_r_7 : wc.cell? ⟨w.heap.size + 1 + 1 + 1, 7, none⟩ = some (.int .i64 0) := Vd_r.c 7 _ rfl
      have fd_r := Vd_r.2.2; have Ld_r := Vd_r.lt; have Nd_r := Nat.ne_of_gt Ld_r; have Md_r := Nat.ne_of_lt Ld_r
      have qd_s_0 : wc.cell? ⟨w.heap.size + 1 + 1 + 1 + 1, 0, none⟩ = some (.int .i64 0) := Vd_s.c 0 _ rfl
      have qd_s_1 : wc.cell? ⟨w.heap.size + 1 + 1 + 1 + 1, 1, none⟩ = some (.int .i64 0) := Vd_s.c 1 _ rfl
      have qd_s_2 : wc.cell? ⟨w.heap.size + 1 + 1 + 1 + 1, 2, none⟩ = some (.int .i64 0) := Vd_s.c 2 _ rfl
      have qd_s_3 : wc.cell? ⟨w.heap.size + 1 + 1 + 1 + 1, 3, none⟩ = some (.int .i64 0) := Vd_s.c 3 _ rfl
      have qd_s_4 : wc.cell? ⟨w.heap.size + 1 + 1 + 1 + 1, 4, none⟩ = some (.int .i64 0) := Vd_s.c 4 _ rfl
      have qd_s_5 : wc.cell? ⟨w.heap.size + 1 + 1 + 1 + 1, 5, none⟩ = some (.int .i64 0) := Vd_s.c 5 _ rfl
      have qd_s_6 : wc.cell? ⟨w.heap.size + 1 + 1 + 1 + 1, 6, none⟩ = some (.int .i64 0) := Vd_s.c 6 _ rfl
      have qd_s_7 : wc.cell? ⟨w.heap.size + 1 + 1 + 1 + 1, 7, none⟩ = some (.int .i64 0) := Vd_s.c 7 _ rfl
      have fd_s := Vd_s.2.2; have Ld_s := Vd_s.lt; have Nd_s := Nat.ne_of_gt Ld_s; have Md_s := Nat.ne_of_lt Ld_s
      go_wp2_with (with_reducible refine M.stopPost ?_)
      (with_reducible refine (CP.out ed _ _ HH.out.d z2 _ (by (repeat (first | (with_reducible assumption) | (with_reducible refine M.pcell_alloc ?_ _) | (with_reducible refine M.pcell_drewN ?_ _) | (with_reducible refine M.pcell_drew ?_) | (with_reducible refine M.pcell_far ?_ _ _ ?hFar; case hFar => (first | omega | ((try simp [go_sem]) <;> omega))) | fail)))).mono ?_); rintro en w14 ⟨xp, e14, rfl, ixp, hr, hb⟩
      have G14 : M.RW pb e14 w w14 := M.rw_step (by have G := HGd.out; (repeat (with_reducible refine M.Below.drewN ?_ _)); go_grown) hb hpb
      have S14 : w.heap.size ≤ w14.heap.size := by have := G14.size; rwa [M.setCell_size] at this
      have PC14 : M.PCell w14 pb e14 := M.pcell_behind hb (e := ed) (by (repeat (first | (with_reducible assumption) | (with_reducible refine M.pcell_alloc ?_ _) | (with_reducible refine M.pcell_drewN ?_ _) | (with_reducible refine M.pcell_drew ?_) | (with_reducible refine M.pcell_far ?_ _ _ ?hFar; case hFar => (first | omega | ((try simp [go_sem]) <;> omega))) | fail)))
      have V14_a : M.Var w14 (w.heap.size) #[.int .i64 c1.shape, .int .i64 c1.sx, .int .i64 c1.sy, .int .i64 c1.mass, .int .i64 c1.px, .int .i64 c1.py, .int .i64 c1.mx, .int .i64 c1.my] := M.var_rw (by (repeat (first | (with_reducible assumption) | (with_reducible apply M.var_set45) | (with_reducible apply M.var_setBd) | (with_reducible apply M.var_setV) | (with_reducible refine M.var_alloc' _ _ _ ?_; first | rfl | (focus (simp [go_sem]; done))) | (with_reducible refine M.Var.alloc ?_ _) | (with_reducible refine M.Var.drewN ?_ _) | (with_reducible refine M.Var.drew ?_) | (with_reducible refine M.Var.far ?_ _ _ ?hFar; case hFar => (first | omega | ((try simp [go_sem]) <;> omega))) | fail))) (by omega) hb
      have q14_a_0 : w14.cell? ⟨w.heap.size, 0, none⟩ = some (.int .i64 c1.shape) := V14_a.c 0 _ rfl
      have q14_a_1 : w14.cell? ⟨w.heap.size, 1, none⟩ = some (.int .i64 c1.sx) := V14_a.c 1 _ rfl
      have q14_a_2 : w14.cell? ⟨w.heap.size, 2, none⟩ = some (.int .i64 c1.sy) := V14_a.c 2 _ rfl
      have q14_a_3 : w14.cell? ⟨w.heap.size, 3, none⟩ = some (.int .i64 c1.mass) := V14_a.c 3 _ rfl
      have q14_a_4 : w14.cell? ⟨w.heap.size, 4, none⟩ = some (.int .i64 c1.px) := V14_a.c 4 _ rfl
      have q14_a_5 : w14.cell? ⟨w.heap.size, 5, none⟩ = some (.int .i64 c1.py) := V14_a.c 5 _ rfl
      have q14_a_6 : w14.cell? ⟨w.heap.size, 6, none⟩ = some (.int .i64 c1.mx) := V14_a.c 6 _ rfl
      have q14_a_7 : w14.cell? ⟨w.heap.size, 7, none⟩ = some (.int .i64 c1.my) := V14_a.c 7 _ rfl
      have f14_a := V14_a.2.2
      have L14_a := V14_a.lt
      have N14_a := Nat.ne_of_gt L14_a
      have M14_a := Nat.ne_of_lt L14_a
      have V14_b : M.Var w14 (w.heap.size + 1) #[.int .i64 c2.shape, .int .i64 c2.sx, .int .i64 c2.sy, .int .i64 c2.mass, .int .i64 c2.px, .int .i64 c2.py, .int .i64 c2.mx, .int .i64 c2.my] := M.var_rw (by (repeat (first | (with_reducible assumption) | (with_reducible apply M.var_set45) | (with_reducible apply M.var_setBd) | (with_reducible apply M.var_setV) | (with_reducible refine M.var_alloc' _ _ _ ?_; first | rfl | (focus (simp [go_sem]; done))) | (with_reducible refine M.Var.alloc ?_ _) | (with_reducible refine M.Var.drewN ?_ _) | (with_reducible refine M.Var.drew ?_) | (with_reducible refine M.Var.far ?_ _ _ ?hFar; case hFar => (first | omega | ((try simp [go_sem]) <;> omega))) | fail))) (by omega) hb
      have q14_b_0 : w14.cell? ⟨w.heap.size + 1, 0, none⟩ = some (.int .i64 c2.shape) := V14_b.c 0 _ rfl
      have q14_b_1 : w14.cell? ⟨w.heap.size + 1, 1, none⟩ = some (.int .i64 c2.sx) := V14_b.c 1 _ rfl
      have q14_b_2 : w14.cell? ⟨w.heap.size + 1, 2, none⟩ = some (.int .i64 c2.sy) := V14_b.c 2 _ rfl
      have q14_b_3 : w14.cell? ⟨w.heap.size + 1, 3, none⟩ = some (.int .i64 c2.mass) := V14_b.c 3 _ rfl
      have q14_b_4 : w14.cell? ⟨w.heap.size + 1, 4, none⟩ = some (.int .i64 c2.px) := V14_b.c 4 _ rfl
      have q14_b_5 : w14.cell? ⟨w.heap.size + 1, 5, none⟩ = some (.int .i64 c2.py) := V14_b.c 5 _ rfl
      have q14_b_6 : w14.cell? ⟨w.heap.size + 1, 6, none⟩ = some (.int .i64 c2.mx) := V14_b.c 6 _ rfl
      have q14_b_7 : w14.cell? ⟨w.heap.size + 1, 7, none⟩ = some (.int .i64 c2.my) := V14_b.c 7 _ rfl
      have f14_b := V14_b.2.2
      have L14_b := V14_b.lt
      have N14_b := Nat.ne_of_gt L14_b
      have M14_b := Nat.ne_of_lt L14_b
      have V14_h : M.Var w14 (w.heap.size + 1 + 1) #[.int .i64 h.nx, .int .i64 h.ny, .int .i64 h.d] := M.var_rw (by (repeat (first | (with_reducible assumption) | (with_reducible apply M.var_set45) | (with_reducible apply M.var_setBd) | (with_reducible apply M.var_setV) | (with_reducible refine M.var_alloc' _ _ _ ?_; first | rfl | (focus (simp [go_sem]; done))) | (with_reducible refine M.Var.alloc ?_ _) | (with_reducible refine M.Var.drewN ?_ _) | (with_reducible refine M.Var.drew ?_) | (with_reducible refine M.Var.far ?_ _ _ ?hFar; case hFar => (first | omega | ((try simp [go_sem]) <;> omega))) | fail))) (by omega) hb
      have q14_h_0 : w14.cell? ⟨w.heap.size + 1 + 1, 0, none⟩ = some (.int .i64 h.nx) := V14_h.c 0 _ rfl
      have q14_h_1 : w14.cell? ⟨w.heap.size + 1 + 1, 1, none⟩ = some (.int .i64 h.ny) := V14_h.c 1 _ rfl
      have q14_h_2 : w14.cell? ⟨w.heap.size + 1 + 1, 2, none⟩ = some (.int .i64 h.d) := V14_h.c 2 _ rfl
      have f14_h := V14_h.2.2
      have L14_h := V14_h.lt
      have N14_h := Nat.ne_of_gt L14_h
      have M14_h := Nat.ne_of_lt L14_h
      have V14_r : M.Var w14 (w.heap.size + 1 + 1 + 1) #[.int .i64 0, .int .i64 0, .int .i64 0, .int .i64 0, .int .i64 0, .int .i64 0, .int .i64 0, .int .i64 0] := M.var_rw (by (repeat (first | (with_reducible assumption) | (with_reducible apply M.var_set45) | (with_reducible apply M.var_setBd) | (with_reducible apply M.var_setV) | (with_reducible refine M.var_alloc' _ _ _ ?_; first | rfl | (focus (simp [go_sem]; done))) | (with_reducible refine M.Var.alloc ?_ _) | (with_reducible refine M.Var.drewN ?_ _) | (with_reducible refine M.Var.drew ?_) | (with_reducible refine M.Var.far ?_ _ _ ?hFar; case hFar => (first | omega | ((try simp [go_sem]) <;> omega))) | fail))) (by omega) hb
      have q14_r_0 : w14.cell? ⟨w.heap.size + 1 + 1 + 1, 0, none⟩ = some (.int .i64 0) := V14_r.c 0 _ rfl
      have q14_r_1 : w14.cell? ⟨w.heap.size + 1 + 1 + 1, 1, none⟩ = some (.int .i64 0) := V14_r.c 1 _ rfl
      have q14_r_2 : w14.cell? ⟨w.heap.size + 1 + 1 + 1, 2, none⟩ = some (.int .i64 0) := V14_r.c 2 _ rfl
      have q14_r_3 : w14.cell? ⟨w.heap.size + 1 + 1 + 1, 3, none⟩ = some (.int .i64 0) := V14_r.c 3 _ rfl
      have q14_r_4 : w14.cell? ⟨w.heap.size + 1 + 1 + 1, 4, none⟩ = some (.int .i64 0) := V14_r.c 4 _ rfl
      have q14_r_5 : w14.cell? ⟨w.heap.size + 1 + 1 + 1, 5, none⟩ = some (.int .i64 0) := V14_r.c 5 _ rfl
      have q14_r_6 : w14.cell? ⟨w.heap.size + 1 + 1 + 1, 6, none⟩ = some (.int .i64 0) := V14_r.c 6 _ rfl
      have q14_r_7 : w14.cell? ⟨w.heap.size + 1 + 1 + 1, 7, none⟩ = some (.int .i64 0) := V14_r.c 7 _ rfl
      have f14_r := V14_r.2.2
      have L14_r := V14_r.lt
      have N14_r := Nat.ne_of_gt L14_r
      have M14_r := Nat.ne_of_lt L14_r
      have V14_s : M.Var w14 (w.heap.size + 1 + 1 + 1 + 1) #[.int .i64 0, .int .i64 0, .int .i64 0, .int .i64 0, .int .i64 0, .int .i64 0, .int .i64 0, .int .i64 0] := M.var_rw (by (repeat (first | (with_reducible assumption) | (with_reducible apply M.var_set45) | (with_reducible apply M.var_setBd) | (with_reducible apply M.var_setV) | (with_reducible refine M.var_alloc' _ _ _ ?_; first | rfl | (focus (simp [go_sem]; done))) | (with_reducible refine M.Var.alloc ?_ _) | (with_reducible refine M.Var.drewN ?_ _) | (with_reducible refine M.Var.drew ?_) | (with_reducible refine M.Var.far ?_ _ _ ?hFar; case hFar => (first | omega | ((try simp [go_sem]) <;> omega))) | fail))) (by omega) hb
      have q14_s_0 : w14.cell? ⟨w.heap.size + 1 + 1 + 1 + 1, 0, none⟩ = some (.int .i64 0) := V14_s.c 0 _ rfl
      have q14_s_1 : w14.cell? ⟨w.heap.size + 1 + 1 + 1 + 1, 1, none⟩ = some (.int .i64 0) := V14_s.c 1 _ rfl
      have q14_s_2 : w14.cell? ⟨w.heap.size + 1 + 1 + 1 + 1, 2, none⟩ = some (.int .i64 0) := V14_s.c 2 _ rfl
      have q14_s_3 : w14.cell? ⟨w.heap.size + 1 + 1 + 1 + 1, 3, none⟩ = some (.int .i64 0) := V14_s.c 3 _ rfl
      have q14_s_4 : w14.cell? ⟨w.heap.size + 1 + 1 + 1 + 1, 4, none⟩ = some (.int .i64 0) := V14_s.c 4 _ rfl
      have q14_s_5 : w14.cell? ⟨w.heap.size + 1 + 1 + 1 + 1, 5, none⟩ = some (.int .i64 0) := V14_s.c 5 _ rfl
      have q14_s_6 : w14.cell? ⟨w.heap.size + 1 + 1 + 1 + 1, 6, none⟩ = some (.int .i64 0) := V14_s.c 6 _ rfl
      have q14_s_7 : w14.cell? ⟨w.heap.size + 1 + 1 + 1 + 1, 7, none⟩ = some (.int .i64 0) := V14_s.c 7 _ rfl
      have f14_s := V14_s.2.2
      have L14_s := V14_s.lt
      have N14_s := Nat.ne_of_gt L14_s
      have M14_s := Nat.ne_of_lt L14_s
      clear Vd_a fd_a Ld_a Nd_a Md_a qd_a_0 qd_a_1 qd_a_2 qd_a_3 qd_a_4 qd_a_5 qd_a_6 qd_a_7 Vd_b fd_b Ld_b Nd_b Md_b qd_b_0 qd_b_1 qd_b_2 qd_b_3 qd_b_4 qd_b_5 qd_b_6 qd_b_7 Vd_h fd_h Ld_h Nd_h Md_h qd_h_0 qd_h_1 qd_h_2 Vd_r fd_r Ld_r Nd_r Md_r qd_r_0 qd_r_1 qd_r_2 qd_r_3 qd_r_4 qd_r_5 qd_r_6 qd_r_7 Vd_s fd_s Ld_s Nd_s Md_s qd_s_0 qd_s_1 qd_s_2 qd_s_3 qd_s_4 qd_s_5 qd_s_6 qd_s_7 PCd cd_pb fd_pb Ld_pb Nd_pb Md_pb
      have HR14 := Lib.hid hr; clear hr
      have c14_pb := PC14.2.1; have f14_pb := PC14.2.2; have L14_pb := PC14.1; have N14_pb := Nat.ne_of_gt L14_pb; have M14_pb := Nat.ne_of_lt L14_pb
      have HG14 := Lib.hid G14; clear G14 hb
      go_wp2_with (with_reducible refine M.stopPost ?_)
      (with_reducible refine (CC.out e14 _ _ ixp ik _ (by (repeat (first | (with_reducible assumption) | (with_reducible refine M.pcell_alloc ?_ _) | (with_reducible refine M.pcell_drewN ?_ _) | (with_reducible refine M.pcell_drew ?_) | (with_reducible refine M.pcell_far ?_ _ _ ?hFar; case hFar => (first | omega | ((try simp [go_sem]) <;> omega))) | fail)))).mono ?_); rintro en w15 ⟨c, e15, rfl, ic, hr, hb⟩
      have G15 : M.RW pb e15 w w15 := M.rw_step (by have G := HG14.out; (repeat (with_reducible refine M.Below.drewN ?_ _)); go_grown) hb hpb
      have S15 : w.heap.size ≤ w15.heap.size := by have := G15.size; rwa [M.setCell_size] at this
      have PC15 : M.PCell w15 pb e15 := M.pcell_behind hb (e := e14) (by (repeat (first | (with_reducible assumption) | (with_reducible refine M.pcell_alloc ?_ _) | (with_reducible refine M.pcell_drewN ?_ _) | (with_reducible refine M.pcell_drew ?_) | (with_reducible refine M.pcell_far ?_ _ _ ?hFar; case hFar => (first | omega | ((try simp [go_sem]) <;> omega))) | fail)))
      have V15_a : M.Var w15 (w.heap.size) #[.int .i64 c1.shape, .int .i64 c1.sx, .int .i64 c1.sy, .int .i64 c1.mass, .int .i64 c1.px, .int .i64 c1.py, .int .i64 c1.mx, .int .i64 c1.my] := M.var_rw (by (repeat (first | (with_reducible assumption) | (with_reducible apply M.var_set45) | (with_reducible apply M.var_setBd) | (with_reducible apply M.var_setV) | (with_reducible refine M.var_alloc' _ _ _ ?_; first | rfl | (focus (simp [go_sem]; done))) | (with_reducible refine M.Var.alloc ?_ _) | (with_reducible refine M.Var.drewN ?_ _) | (with_reducible refine M.Var.drew ?_) | (with_reducible refine M.Var.far ?_ _ _ ?hFar; case hFar => (first | omega | ((try simp [go_sem]) <;> omega))) | fail))) (by omega) hb
      have q15_a_0 : w15.cell? ⟨w.heap.size, 0, none⟩ = some (.int .i64 c1.shape) := V15_a.c 0 _ rfl
      have q15_a_1 : w15.cell? ⟨w.heap.size, 1, none⟩ = some (.int .i64 c1.sx) := V15_a.c 1 _ rfl
      have q15_a_2 : w15.cell? ⟨w.heap.size, 2, none⟩ = some (.int .i64 c1.sy) := V15_a.c 2 _ rfl
      have q15_a_3 : w15.cell? ⟨w.heap.size, 3, none⟩ = some (.int .i64 c1.mass) := V15_a.c 3 _ rfl
      have q15_a_4 : w15.cell? ⟨w.heap.size, 4, none⟩ = some (.int .i64 c1.px) := V15_a.c 4 _ rfl
      have q15_a_5 : w15.cell? ⟨w.heap.size, 5, none⟩ = some (.int .i64 c1.py) := V15_a.c 5 _ rfl
      have q15_a_6 : w15.cell? ⟨w.heap.size, 6, none⟩ = some (.int .i64 c1.mx) := V15_a.c 6 _ rfl
      have q15_a_7 : w15.cell? ⟨w.heap.size, 7, none⟩ = some (.int .i64 c1.my) := V15_a.c 7 _ rfl
      have f15_a := V15_a.2.2
      have L15_a := V15_a.lt
      have N15_a := Nat.ne_of_gt L15_a
      have M15_a := Nat.ne_of_lt L15_a
      have V15_b : M.Var w15 (w.heap.size + 1) #[.int .i64 c2.shape, .int .i64 c2.sx, .int .i64 c2.sy, .int .i64 c2.mass, .int .i64 c2.px, .int .i64 c2.py, .int .i64 c2.mx, .int .i64 c2.my] := M.var_rw (by (repeat (first | (with_reducible assumption) | (with_reducible apply M.var_set45) | (with_reducible apply M.var_setBd) | (with_reducible apply M.var_setV) | (with_reducible refine M.var_alloc' _ _ _ ?_; first | rfl | (focus (simp [go_sem]; done))) | (with_reducible refine M.Var.alloc ?_ _) | (with_reducible refine M.Var.drewN ?_ _) | (with_reducible refine M.Var.drew ?_) | (with_reducible refine M.Var.far ?_ _ _ ?hFar; case hFar => (first | omega | ((try simp [go_sem]) <;> omega))) | fail))) (by omega) hb
      have q15_b_0 : w15.cell? ⟨w.heap.size + 1, 0, none⟩ = some (.int .i64 c2.shape) := V15_b.c 0 _ rfl
      have q15_b_1 : w15.cell? ⟨w.heap.size + 1, 1, none⟩ = some (.int .i64 c2.sx) := V15_b.c 1 _ rfl
      have q15_b_2 : w15.cell? ⟨w.heap.size + 1, 2, none⟩ = some (.int .i64 c2.sy) := V15_b.c 2 _ rfl
      have q15_b_3 : w15.cell? ⟨w.heap.size + 1, 3, none⟩ = some (.int .i64 c2.mass) := V15_b.c 3 _ rfl
      have q15_b_4 : w15.cell? ⟨w.heap.size + 1, 4, none⟩ = some (.int .i64 c2.px) := V15_b.c 4 _ rfl
      have q15_b_5 : w15.cell? ⟨w.heap.size + 1, 5, none⟩ = some (.int .i64 c2.py) := V15_b.c 5 _ rfl
      have q15_b_6 : w15.cell? ⟨w.heap.size + 1, 6, none⟩ = some (.int .i64 c2.mx) := V15_b.c 6 _ rfl
      have q15_b_7 : w15.cell? ⟨w.heap.size + 1, 7, none⟩ = some (.int .i64 c2.my) := V15_b.c 7 _ rfl
      have f15_b := V15_b.2.2
      have L15_b := V15_b.lt
      have N15_b := Nat.ne_of_gt L15_b
      have M15_b := Nat.ne_of_lt L15_b
      have V15_h : M.Var w15 (w.heap.size + 1 + 1) #[.int .i64 h.nx, .int .i64 h.ny, .int .i64 h.d] := M.var_rw (by (repeat (first | (with_reducible assumption) | (with_reducible apply M.var_set45) | (with_reducible apply M.var_setBd) | (with_reducible apply M.var_setV) | (with_reducible refine M.var_alloc' _ _ _ ?_; first | rfl | (focus (simp [go_sem]; done))) | (with_reducible refine M.Var.alloc ?_ _) | (with_reducible refine M.Var.drewN ?_ _) | (with_reducible refine M.Var.drew ?_) | (with_reducible refine M.Var.far ?_ _ _ ?hFar; case hFar => (first | omega | ((try simp [go_sem]) <;> omega))) | fail))) (by omega) hb
      have q15_h_0 : w15.cell? ⟨w.heap.size + 1 + 1, 0, none⟩ = some (.int .i64 h.nx) := V15_h.c 0 _ rfl
      have q15_h_1 : w15.cell? ⟨w.heap.size + 1 + 1, 1, none⟩ = some (.int .i64 h.ny) := V15_h.c 1 _ rfl
      have q15_h_2 : w15.cell? ⟨w.heap.size + 1 + 1, 2, none⟩ = some (.int .i64 h.d) := V15_h.c 2 _ rfl
      have f15_h := V15_h.2.2
      have L15_h := V15_h.lt
      have N15_h := Nat.ne_of_gt L15_h
      have M15_h := Nat.ne_of_lt L15_h
      have V15_r : M.Var w15 (w.heap.size + 1 + 1 + 1) #[.int .i64 0, .int .i64 0, .int .i64 0, .int .i64 0, .int .i64 0, .int .i64 0, .int .i64 0, .int .i64 0] := M.var_rw (by (repeat (first | (with_reducible assumption) | (with_reducible apply M.var_set45) | (with_reducible apply M.var_setBd) | (with_reducible apply M.var_setV) | (with_reducible refine M.var_alloc' _ _ _ ?_; first | rfl | (focus (simp [go_sem]; done))) | (with_reducible refine M.Var.alloc ?_ _) | (with_reducible refine M.Var.drewN ?_ _) | (with_reducible refine M.Var.drew ?_) | (with_reducible refine M.Var.far ?_ _ _ ?hFar; case hFar => (first | omega | ((try simp [go_sem]) <;> omega))) | fail))) (by omega) hb
      have q15_r_0 : w15.cell? ⟨w.heap.size + 1 + 1 + 1, 0, none⟩ = some (.int .i64 0) := V15_r.c 0 _ rfl
      have q15_r_1 : w15.cell? ⟨w.heap.size + 1 + 1 + 1, 1, none⟩ = some (.int .i64 0) := V15_r.c 1 _ rfl
      have q15_r_2 : w15.cell? ⟨w.heap.size + 1 + 1 + 1, 2, none⟩ = some (.int .i64 0) := V15_r.c 2 _ rfl
      have q15_r_3 : w15.cell? ⟨w.heap.size + 1 + 1 + 1, 3, none⟩ = some (.int .i64 0) := V15_r.c 3 _ rfl
      have q15_r_4 : w15.cell? ⟨w.heap.size + 1 + 1 + 1, 4, none⟩ = some (.int .i64 0) := V15_r.c 4 _ rfl
      have q15_r_5 : w15.cell? ⟨w.heap.size + 1 + 1 + 1, 5, none⟩ = some (.int .i64 0) := V15_r.c 5 _ rfl
      have q15_r_6 : w15.cell? ⟨w.heap.size + 1 + 1 + 1, 6, none⟩ = some (.int .i64 0) := V15_r.c 6 _ rfl
      have q15_r_7 : w15.cell? ⟨w.heap.size + 1 + 1 + 1, 7, none⟩ = some (.int .i64 0) := V15_r.c 7 _ rfl
      have f15_r := V15_r.2.2
      have L15_r := V15_r.lt
      have N15_r := Nat.ne_of_gt L15_r
      have M15_r := Nat.ne_of_lt L15_r
      have V15_s : M.Var w15 (w.heap.size + 1 + 1 + 1 + 1) #[.int .i64 0, .int .i64 0, .int .i64 0, .int .i64 0, .int .i64 0, .int .i64 0, .int .i64 0, .int .i64 0] := M.var_rw (by (repeat (first | (with_reducible assumption) | (with_reducible apply M.var_set45) | (with_reducible apply M.var_setBd) | (with_reducible apply M.var_setV) | (with_reducible refine M.var_alloc' _ _ _ ?_; first | rfl | (focus (simp [go_sem]; done))) | (with_reducible refine M.Var.alloc ?_ _) | (with_reducible refine M.Var.drewN ?_ _) | (with_reducible refine M.Var.drew ?_) | (with_reducible refine M.Var.far ?_ _ _ ?hFar; case hFar => (first | omega | ((try simp [go_sem]) <;> omega))) | fail))) (by omega) hb
      have q15_s_0 : w15.cell? ⟨w.heap.size + 1 + 1 + 1 + 1, 0, none⟩ = some (.int .i64 0) := V15_s.c 0 _ rfl
      have q15_s_1 : w15.cell? ⟨w.heap.size + 1 + 1 + 1 + 1, 1, none⟩ = some (.int .i64 0) := V15_s.c 1 _ rfl
      have q15_s_2 : w15.cell? ⟨w.heap.size + 1 + 1 + 1 + 1, 2, none⟩ = some (.int .i64 0) := V15_s.c 2 _ rfl
      have q15_s_3 : w15.cell? ⟨w.heap.size + 1 + 1 + 1 + 1, 3, none⟩ = some (.int .i64 0) := V15_s.c 3 _ rfl
      have q15_s_4 : w15.cell? ⟨w.heap.size + 1 + 1 + 1 + 1, 4, none⟩ = some (.int .i64 0) := V15_s.c 4 _ rfl
      have q15_s_5 : w15.cell? ⟨w.heap.size + 1 + 1 + 1 + 1, 5, none⟩ = some (.int .i64 0) := V15_s.c 5 _ rfl
      have q15_s_6 : w15.cell? ⟨w.heap.size + 1 + 1 + 1 + 1, 6, none⟩ = some (.int .i64 0) := V15_s.c 6 _ rfl
      have q15_s_7 : w15.cell? ⟨w.heap.size + 1 + 1 + 1 + 1, 7, none⟩ = some (.int .i64 0) := V15_s.c 7 _ rfl
      have f15_s := V15_s.2.2
      have L15_s := V15_s.lt
      have N15_s := Nat.ne_of_gt L15_s
      have M15_s := Nat.ne_of_lt L15_s
      clear V14_a f14_a L14_a N14_a M14_a q14_a_0 q14_a_1 q14_a_2 q14_a_3 q14_a_4 q14_a_5 q14_a_6 q14_a_7 V14_b f14_b L14_b N14_b M14_b q14_b_0 q14_b_1 q14_b_2 q14_b_3 q14_b_4 q14_b_5 q14_b_6 q14_b_7 V14_h f14_h L14_h N14_h M14_h q14_h_0 q14_h_1 q14_h_2 V14_r f14_r L14_r N14_r M14_r q14_r_0 q14_r_1 q14_r_2 q14_r_3 q14_r_4 q14_r_5 q14_r_6 q14_r_7 V14_s f14_s L14_s N14_s M14_s q14_s_0 q14_s_1 q14_s_2 q14_s_3 q14_s_4 q14_s_5 q14_s_6 q14_s_7 PC14 c14_pb f14_pb L14_pb N14_pb M14_pb
      have HR15 := Lib.hid hr; clear hr
      have c15_pb := PC15.2.1; have f15_pb := PC15.2.2; have L15_pb := PC15.1; have N15_pb := Nat.ne_of_gt L15_pb; have M15_pb := Nat.ne_of_lt L15_pb
      have HG15 := Lib.hid G15; clear G15 hb
      go_wp2_with (with_reducible refine M.stopPost ?_)
      have HD := Lib.hid (show M.Rel ed (divX (h.d.tdiv 2) k) c e15 from by have := rel_bind (Q := fun p => divX p k) HR14.out HR15.out; rw [part2] at this; exact this)
      refine wp_region_till (S := fun sT wT' => Hid ((sT.getD 13 false = false → M.Var wT' (w.heap.size) #[.int .i64 c1.shape, .int .i64 c1.sx, .int .i64 c1.sy, .int .i64 c1.mass, .int .i64 c1.px, .int .i64 c1.py, .int .i64 c1.mx, .int .i64 c1.my]) ∧ M.Var wT' (w.heap.size + 1 + 1) #[.int .i64 h.nx, .int .i64 h.ny, .int .i64 h.d] ∧ True)) (by kernel_rfl) (Lib.hid ⟨(fun _ => by (repeat (first | (with_reducible assumption) | (with_reducible apply M.var_set45) | (with_reducible apply M.var_setBd) | (with_reducible apply M.var_setV) | (with_reducible refine M.var_alloc' _ _ _ ?_; first | rfl | (focus (simp [go_sem]; done))) | (with_reducible refine M.Var.alloc ?_ _) | (with_reducible refine M.Var.drewN ?_ _) | (with_reducible refine M.Var.drew ?_) | (with_reducible refine M.Var.far ?_ _ _ ?hFar; case hFar => (first | omega | ((try simp [go_sem]) <;> omega))) | fail))), (by (repeat (first | (with_reducible assumption) | (with_reducible apply M.var_set45) | (with_reducible apply M.var_setBd) | (with_reducible apply M.var_setV) | (with_reducible refine M.var_alloc' _ _ _ ?_; first | rfl | (focus (simp [go_sem]; done))) | (with_reducible refine M.Var.alloc ?_ _) | (with_reducible refine M.Var.drewN ?_ _) | (with_reducible refine M.Var.drew ?_) | (with_reducible refine M.Var.far ?_ _ _ ?hFar; case hFar => (first | omega | ((try simp [go_sem]) <;> omega))) | fail))), trivial⟩) ?_
      intro hTb hTS
      refine wpTill_take (i := 0) (v := ?_) rfl (by kernel_rfl) (by kernel_rfl) (by kernel_rfl) hTb (fun _ _ _ h => h) (fun _ _ => by simp only [getD_set_ne false (show 0 ≠ 13 by decide)]) (Or.inl ⟨by rfl, ?_⟩) hTS ?_
      rotate_left
      · intro wT hT; clear hT
        go_simp
        all_goals with_reducible rfl
      clear hTb hTS; intro hTb hTS
      try simp only [Act.put, List.setIfInBounds_toArray, List.set_cons_zero, List.set_cons_succ]
      refine wpTill_take (i := 1) (v := ?_) rfl (by kernel_rfl) (by kernel_rfl) (by kernel_rfl) hTb (fun _ _ _ h => h) (fun _ _ => by simp only [getD_set_ne false (show 1 ≠ 13 by decide)]) (Or.inl ⟨by rfl, ?_⟩) hTS ?_
      rotate_left
      · intro wT hT; clear hT
        go_simp
        all_goals with_reducible rfl
      clear hTb hTS; intro hTb hTS
      try simp only [Act.put, List.setIfInBounds_toArray, List.set_cons_zero, List.set_cons_succ]
      refine wpTill_take (i := 2) (v := ?_) rfl (by kernel_rfl) (by kernel_rfl) (by kernel_rfl) hTb (fun _ _ _ h => h) (fun _ _ => by simp only [getD_set_ne false (show 2 ≠ 13 by decide)]) (Or.inl ⟨by rfl, ?_⟩) hTS ?_
      rotate_left
      · rintro wT ⟨sT, hbT, huT, hST⟩
        have zT_a_0 := (hST.out.1 (till_flag (k := 13) (by kernel_rfl) hbT huT)).c 0 _ rfl
        have zT_a_1 := (hST.out.1 (till_flag (k := 13) (by kernel_rfl) hbT huT)).c 1 _ rfl
        have zT_a_2 := (hST.out.1 (till_flag (k := 13) (by kernel_rfl) hbT huT)).c 2 _ rfl
        have zT_a_3 := (hST.out.1 (till_flag (k := 13) (by kernel_rfl) hbT huT)).c 3 _ rfl
        have zT_a_4 := (hST.out.1 (till_flag (k := 13) (by kernel_rfl) hbT huT)).c 4 _ rfl
        have zT_a_5 := (hST.out.1 (till_flag (k := 13) (by kernel_rfl) hbT huT)).c 5 _ rfl
        have zT_a_6 := (hST.out.1 (till_flag (k := 13) (by kernel_rfl) hbT huT)).c 6 _ rfl
        have zT_a_7 := (hST.out.1 (till_flag (k := 13) (by kernel_rfl) hbT huT)).c 7 _ rfl
        have zT_h_0 := hST.out.2.1.c 0 _ rfl
        have zT_h_1 := hST.out.2.1.c 1 _ rfl
        have zT_h_2 := hST.out.2.1.c 2 _ rfl
        clear hST hbT huT
        go_simp
        all_goals with_reducible rfl
      clear hTb hTS; intro hTb hTS
      try simp only [Act.put, List.setIfInBounds_toArray, List.set_cons_zero, List.set_cons_succ]
      refine wpTill_take (i := 3) (v := ?_) rfl (by kernel_rfl) (by kernel_rfl) (by kernel_rfl) hTb (fun _ _ _ h => h) (fun _ _ => by simp only [getD_set_ne false (show 3 ≠ 13 by decide)]) (Or.inl ⟨by rfl, ?_⟩) hTS ?_
      rotate_left
      · intro wT hT; clear hT
        go_simp
        all_goals with_reducible rfl
      clear hTb hTS; intro hTb hTS
      try simp only [Act.put, List.setIfInBounds_toArray, List.set_cons_zero, List.set_cons_succ]
      refine wpTill_take (i := 4) (v := ?_) rfl (by kernel_rfl) (by kernel_rfl) (by kernel_rfl) hTb (fun _ _ _ h => h) (fun _ _ => by simp only [getD_set_ne false (show 4 ≠ 13 by decide)]) (Or.inl ⟨by rfl, ?_⟩) hTS ?_
      rotate_left
      · intro wT hT; clear hT
        go_simp
        all_goals with_reducible rfl
      clear hTb hTS; intro hTb hTS
      try simp only [Act.put, List.setIfInBounds_toArray, List.set_cons_zero, List.set_cons_succ]
      refine wpTill_take (i := 5) (v := ?_) rfl (by kernel_rfl) (by kernel_rfl) (by kernel_rfl) hTb (fun _ _ _ h => h) (fun _ _ => by simp only [getD_set_ne false (show 5 ≠ 13 by decide)]) (Or.inl ⟨by rfl, ?_⟩) hTS ?_
      rotate_left
      · rintro wT ⟨sT, hbT, huT, hST⟩
        have zT_a_0 := (hST.out.1 (till_flag (k := 13) (by kernel_rfl) hbT huT)).c 0 _ rfl
        have zT_a_1 := (hST.out.1 (till_flag (k := 13) (by kernel_rfl) hbT huT)).c 1 _ rfl
        have zT_a_2 := (hST.out.1 (till_flag (k := 13) (by kernel_rfl) hbT huT)).c 2 _ rfl
        have zT_a_3 := (hST.out.1 (till_flag (k := 13) (by kernel_rfl) hbT huT)).c 3 _ rfl
        have zT_a_4 := (hST.out.1 (till_flag (k := 13) (by kernel_rfl) hbT huT)).c 4 _ rfl
        have zT_a_5 := (hST.out.1 (till_flag (k := 13) (by kernel_rfl) hbT huT)).c 5 _ rfl
        have zT_a_6 := (hST.out.1 (till_flag (k := 13) (by kernel_rfl) hbT huT)).c 6 _ rfl
        have zT_a_7 := (hST.out.1 (till_flag (k := 13) (by kernel_rfl) hbT huT)).c 7 _ rfl
        have zT_h_0 := hST.out.2.1.c 0 _ rfl
        have zT_h_1 := hST.out.2.1.c 1 _ rfl
        have zT_h_2 := hST.out.2.1.c 2 _ rfl
        clear hST hbT huT
        go_simp
        all_goals with_reducible rfl
      clear hTb hTS; intro hTb hTS
      try simp only [Act.put, List.setIfInBounds_toArray, List.set_cons_zero, List.set_cons_succ]
      refine wpTill_take (i := 6) (v := ?_) rfl (by kernel_rfl) (by kernel_rfl) (by kernel_rfl) hTb (fun _ _ _ h => h) (fun _ _ => by simp only [getD_set_ne false (show 6 ≠ 13 by decide)]) (Or.inl ⟨by rfl, ?_⟩) hTS ?_
      rotate_left
      · intro wT hT; clear hT
        go_simp
        all_goals with_reducible rfl
      clear hTb hTS; intro hTb hTS
      try simp only [Act.put, List.setIfInBounds_toArray, List.set_cons_zero, List.set_cons_succ]
      refine wpTill_take (i := 7) (v := ?_) rfl (by kernel_rfl) (by kernel_rfl) (by kernel_rfl) hTb (fun _ _ _ h => h) (fun _ _ => by simp only [getD_set_ne false (show 7 ≠ 13 by decide)]) (Or.inl ⟨by rfl, ?_⟩) hTS ?_
      rotate_left
      · intro wT hT; clear hT
        go_simp
        all_goals with_reducible rfl
      clear hTb hTS; intro hTb hTS
      try simp only [Act.put, List.setIfInBounds_toArray, List.set_cons_zero, List.set_cons_succ]
      refine wpTill_take (i := 8) (v := ?_) rfl (by kernel_rfl) (by kernel_rfl) (by kernel_rfl) hTb (fun _ _ _ h => h) (fun _ _ => by simp only [getD_set_ne false (show 8 ≠ 13 by decide)]) (Or.inl ⟨by rfl, ?_⟩) hTS ?_
      rotate_left
      · intro wT hT; clear hT
        go_simp
        all_goals with_reducible rfl
      clear hTb hTS; intro hTb hTS
      try simp only [Act.put, List.setIfInBounds_toArray, List.set_cons_zero, List.set_cons_succ]
      refine wpTill_one (i := 9) (by kernel_rfl) rfl hTb (fun K hK => ?_)
      go_simp
      (with_reducible refine (CB.out e15 _ _ ic ila _ (by (repeat (first | (with_reducible assumption) | (with_reducible refine M.pcell_alloc ?_ _) | (with_reducible refine M.pcell_drewN ?_ _) | (with_reducible refine M.pcell_drew ?_) | (with_reducible refine M.pcell_far ?_ _ _ ?hFar; case hFar => (first | omega | ((try simp [go_sem]) <;> omega))) | fail)))).mono ?_); rintro en w16 ⟨xm, e16, rfl, ixm, hr, hb⟩
      have G16 : M.RW pb e16 w w16 := M.rw_step (by have G := HG15.out; (repeat (with_reducible refine M.Below.drewN ?_ _)); go_grown) hb hpb
      have S16 : w.heap.size ≤ w16.heap.size := by have := G16.size; rwa [M.setCell_size] at this
      have PC16 : M.PCell w16 pb e16 := M.pcell_behind hb (e := e15) (by (repeat (first | (with_reducible assumption) | (with_reducible refine M.pcell_alloc ?_ _) | (with_reducible refine M.pcell_drewN ?_ _) | (with_reducible refine M.pcell_drew ?_) | (with_reducible refine M.pcell_far ?_ _ _ ?hFar; case hFar => (first | omega | ((try simp [go_sem]) <;> omega))) | fail)))
      have V16_a : M.Var w16 (w.heap.size) #[.int .i64 c1.shape, .int .i64 c1.sx, .int .i64 c1.sy, .int .i64 c1.mass, .int .i64 c1.px, .int .i64 c1.py, .int .i64 c1.mx, .int .i64 c1.my] := M.var_rw (by (repeat (first | (with_reducible assumption) | (with_reducible apply M.var_set45) | (with_reducible apply M.var_setBd) | (with_reducible apply M.var_setV) | (with_reducible refine M.var_alloc' _ _ _ ?_; first | rfl | (focus (simp [go_sem]; done))) | (with_reducible refine M.Var.alloc ?_ _) | (with_reducible refine M.Var.drewN ?_ _) | (with_reducible refine M.Var.drew ?_) | (with_reducible refine M.Var.far ?_ _ _ ?hFar; case hFar => (first | omega | ((try simp [go_sem]) <;> omega))) | fail))) (by omega) hb
      have q16_a_0 : w16.cell? ⟨w.heap.size, 0, none⟩ = some (.int .i64 c1.shape) := V16_a.c 0 _ rfl
      have q16_a_1 : w16.cell? ⟨w.heap.size, 1, none⟩ = some (.int .i64 c1.sx) := V16_a.c 1 _ rfl
      have q16_a_2 : w16.cell? ⟨w.heap.size, 2, none⟩ = some (.int .i64 c1.sy) := V16_a.c 2 _ rfl
      have q16_a_3 : w16.cell? ⟨w.heap.size, 3, none⟩ = some (.int .i64 c1.mass) := V16_a.c 3 _ rfl
      have q16_a_4 : w16.cell? ⟨w.heap.size, 4, none⟩ = some (.int .i64 c1.px) := V16_a.c 4 _ rfl
      have q16_a_5 : w16.cell? ⟨w.heap.size, 5, none⟩ = some (.int .i64 c1.py) := V16_a.c 5 _ rfl
      have q16_a_6 : w16.cell? ⟨w.heap.size, 6, none⟩ = some (.int .i64 c1.mx) := V16_a.c 6 _ rfl
      have q16_a_7 : w16.cell? ⟨w.heap.size, 7, none⟩ = some (.int .i64 c1.my) := V16_a.c 7 _ rfl
      have f16_a := V16_a.2.2
      have L16_a := V16_a.lt
      have N16_a := Nat.ne_of_gt L16_a
      have M16_a := Nat.ne_of_lt L16_a
      have V16_b : M.Var w16 (w.heap.size + 1) #[.int .i64 c2.shape, .int .i64 c2.sx, .int .i64 c2.sy, .int .i64 c2.mass, .int .i64 c2.px, .int .i64 c2.py, .int .i64 c2.mx, .int .i64 c2.my] := M.var_rw (by (repeat (first | (with_reducible assumption) | (with_reducible apply M.var_set45) | (with_reducible apply M.var_setBd) | (with_reducible apply M.var_setV) | (with_reducible refine M.var_alloc' _ _ _ ?_; first | rfl | (focus (simp [go_sem]; done))) | (with_reducible refine M.Var.alloc ?_ _) | (with_reducible refine M.Var.drewN ?_ _) | (with_reducible refine M.Var.drew ?_) | (with_reducible refine M.Var.far ?_ _ _ ?hFar; case hFar => (first | omega | ((try simp [go_sem]) <;> omega))) | fail))) (by omega) hb
      have q16_b_0 : w16.cell? ⟨w.heap.size + 1, 0, none⟩ = some (.int .i64 c2.shape) := V16_b.c 0 _ rfl
      have q16_b_1 : w16.cell? ⟨w.heap.size + 1, 1, none⟩ = some (.int .i64 c2.sx) := V16_b.c 1 _ rfl
      have q16_b_2 : w16.cell? ⟨w.heap.size + 1, 2, none⟩ = some (.int .i64 c2.sy) := V16_b.c 2 _ rfl
      have q16_b_3 : w16.cell? ⟨w.heap.size + 1, 3, none⟩ = some (.int .i64 c2.mass) := V16_b.c 3 _ rfl
      have q16_b_4 : w16.cell? ⟨w.heap.size + 1, 4, none⟩ = some (.int .i64 c2.px) := V16_b.c 4 _ rfl
      have q16_b_5 : w16.cell? ⟨w.heap.size + 1, 5, none⟩ = some (.int .i64 c2.py) := V16_b.c 5 _ rfl
      have q16_b_6 : w16.cell? ⟨w.heap.size + 1, 6, none⟩ = some (.int .i64 c2.mx) := V16_b.c 6 _ rfl
      have q16_b_7 : w16.cell? ⟨w.heap.size + 1, 7, none⟩ = some (.int .i64 c2.my) := V16_b.c 7 _ rfl
      have f16_b := V16_b.2.2
      have L16_b := V16_b.lt
      have N16_b := Nat.ne_of_gt L16_b
      have M16_b := Nat.ne_of_lt L16_b
      have V16_h : M.Var w16 (w.heap.size + 1 + 1) #[.int .i64 h.nx, .int .i64 h.ny, .int .i64 h.d] := M.var_rw (by (repeat (first | (with_reducible assumption) | (with_reducible apply M.var_set45) | (with_reducible apply M.var_setBd) | (with_reducible apply M.var_setV) | (with_reducible refine M.var_alloc' _ _ _ ?_; first | rfl | (focus (simp [go_sem]; done))) | (with_reducible refine M.Var.alloc ?_ _) | (with_reducible refine M.Var.drewN ?_ _) | (with_reducible refine M.Var.drew ?_) | (with_reducible refine M.Var.far ?_ _ _ ?hFar; case hFar => (first | omega | ((try simp [go_sem]) <;> omega))) | fail))) (by omega) hb
      have q16_h_0 : w16.cell? ⟨w.heap.size + 1 + 1, 0, none⟩ = some (.int .i64 h.nx) := V16_h.c 0 _ rfl
      have q16_h_1 : w16.cell? ⟨w.heap.size + 1 + 1, 1, none⟩ = some (.int .i64 h.ny) := V16_h.c 1 _ rfl
      have q16_h_2 : w16.cell? ⟨w.heap.size + 1 + 1, 2, none⟩ = some (.int .i64 h.d) := V16_h.c 2 _ rfl
      have f16_h := V16_h.2.2
      have L16_h := V16_h.lt
      have N16_h := Nat.ne_of_gt L16_h
      have M16_h := Nat.ne_of_lt L16_h
      have V16_r : M.Var w16 (w.heap.size + 1 + 1 + 1) #[.int .i64 0, .int .i64 0, .int .i64 0, .int .i64 0, .int .i64 0, .int .i64 0, .int .i64 0, .int .i64 0] := M.var_rw (by (repeat (first | (with_reducible assumption) | (with_reducible apply M.var_set45) | (with_reducible apply M.var_setBd) | (with_reducible apply M.var_setV) | (with_reducible refine M.var_alloc' _ _ _ ?_; first | rfl | (focus (simp [go_sem]; done))) | (with_reducible refine M.Var.alloc ?_ _) | (with_reducible refine M.Var.drewN ?_ _) | (with_reducible refine M.Var.drew ?_) | (with_reducible refine M.Var.far ?_ _ _ ?hFar; case hFar => (first | omega | ((try simp [go_sem]) <;> omega))) | fail))) (by omega) hb
      have q16_r_0 : w16.cell? ⟨w.heap.size + 1 + 1 + 1, 0, none⟩ = some (.int .i64 0) := V16_r.c 0 _ rfl
      have q16_r_1 : w16.cell? ⟨w.heap.size + 1 + 1 + 1, 1, none⟩ = some (.int .i64 0) := V16_r.c 1 _ rfl
      have q16_r_2 : w16.cell? ⟨w.heap.size + 1 + 1 + 1, 2, none⟩ = some (.int .i64 0) := V16_r.c 2 _ rfl
      have q16_r_3 : w16.cell? ⟨w.heap.size + 1 + 1 + 1, 3, none⟩ = some (.int .i64 0) := V16_r.c 3 _ rfl
      have q16_r_4 : w16.cell? ⟨w.heap.size + 1 + 1 + 1, 4, none⟩ = some (.int .i64 0) := V16_r.c 4 _ rfl
      have q16_r_5 : w16.cell? ⟨w.heap.size + 1 + 1 + 1, 5, none⟩ = some (.int .i64 0) := V16_r.c 5 _ rfl
      have q16_r_6 : w16.cell? ⟨w.heap.size + 1 + 1 + 1, 6, none⟩ = some (.int .i64 0) := V16_r.c 6 _ rfl
      have q16_r_7 : w16.cell? ⟨w.heap.size + 1 + 1 + 1, 7, none⟩ = some (.int .i64 0) := V16_r.c 7 _ rfl
      have f16_r := V16_r.2.2
      have L16_r := V16_r.lt
      have N16_r := Nat.ne_of_gt L16_r
      have M16_r := Nat.ne_of_lt L16_r
      have V16_s : M.Var w16 (w.heap.size + 1 + 1 + 1 + 1) #[.int .i64 0, .int .i64 0, .int .i64 0, .int .i64 0, .int .i64 0, .int .i64 0, .int .i64 0, .int .i64 0] := M.var_rw (by (repeat (first | (with_reducible assumption) | (with_reducible apply M.var_set45) | (with_reducible apply M.var_setBd) | (with_reducible apply M.var_setV) | (with_reducible refine M.var_alloc' _ _ _ ?_; first | rfl | (focus (simp [go_sem]; done))) | (with_reducible refine M.Var.alloc ?_ _) | (with_reducible refine M.Var.drewN ?_ _) | (with_reducible refine M.Var.drew ?_) | (with_reducible refine M.Var.far ?_ _ _ ?hFar; case hFar => (first | omega | ((try simp [go_sem]) <;> omega))) | fail))) (by omega) hb
      have q16_s_0 : w16.cell? ⟨w.heap.size + 1 + 1 + 1 + 1, 0, none⟩ = some (.int .i64 0) := V16_s.c 0 _ rfl
      have q16_s_1 : w16.cell? ⟨w.heap.size + 1 + 1 + 1 + 1, 1, none⟩ = some (.int .i64 0) := V16_s.c 1 _ rfl
      have q16_s_2 : w16.cell? ⟨w.heap.size + 1 + 1 + 1 + 1, 2, none⟩ = some (.int .i64 0) := V16_s.c 2 _ rfl
      have q16_s_3 : w16.cell? ⟨w.heap.size + 1 + 1 + 1 + 1, 3, none⟩ = some (.int .i64 0) := V16_s.c 3 _ rfl
      have q16_s_4 : w16.cell? ⟨w.heap.size + 1 + 1 + 1 + 1, 4, none⟩ = some (.int .i64 0) := V16_s.c 4 _ rfl
      have q16_s_5 : w16.cell? ⟨w.heap.size + 1 + 1 + 1 + 1, 5, none⟩ = some (.int .i64 0) := V16_s.c 5 _ rfl
      have q16_s_6 : w16.cell? ⟨w.heap.size + 1 + 1 + 1 + 1, 6, none⟩ = some (.int .i64 0) := V16_s.c 6 _ rfl
      have q16_s_7 : w16.cell? ⟨w.heap.size + 1 + 1 + 1 + 1, 7, none⟩ = some (.int .i64 0) := V16_s.c 7 _ rfl
      have f16_s := V16_s.2.2
      have L16_s := V16_s.lt
      have N16_s := Nat.ne_of_gt L16_s
      have M16_s := Nat.ne_of_lt L16_s
      clear V15_a f15_a L15_a N15_a M15_a q15_a_0 q15_a_1 q15_a_2 q15_a_3 q15_a_4 q15_a_5 q15_a_6 q15_a_7 V15_b f15_b L15_b N15_b M15_b q15_b_0 q15_b_1 q15_b_2 q15_b_3 q15_b_4 q15_b_5 q15_b_6 q15_b_7 V15_h f15_h L15_h N15_h M15_h q15_h_0 q15_h_1 q15_h_2 V15_r f15_r L15_r N15_r M15_r q15_r_0 q15_r_1 q15_r_2 q15_r_3 q15_r_4 q15_r_5 q15_r_6 q15_r_7 V15_s f15_s L15_s N15_s M15_s q15_s_0 q15_s_1 q15_s_2 q15_s_3 q15_s_4 q15_s_5 q15_s_6 q15_s_7 PC15 c15_pb f15_pb L15_pb N15_pb M15_pb
      have HR16 := Lib.hid hr; clear hr
      have c16_pb := PC16.2.1; have f16_pb := PC16.2.2; have L16_pb := PC16.1; have N16_pb := Nat.ne_of_gt L16_pb; have M16_pb := Nat.ne_of_lt L16_pb
      have HG16 := Lib.hid G16; clear G16 hb
      (try go_simp)
      refine hK.out _ _ (Lib.hid ⟨(fun _ => by (repeat (first | (with_reducible assumption) | (with_reducible apply M.var_set45) | (with_reducible apply M.var_setBd) | (with_reducible apply M.var_setV) | (with_reducible refine M.var_alloc' _ _ _ ?_; first | rfl | (focus (simp [go_sem]; done))) | (with_reducible refine M.Var.alloc ?_ _) | (with_reducible refine M.Var.drewN ?_ _) | (with_reducible refine M.Var.drew ?_) | (with_reducible refine M.Var.far ?_ _ _ ?hFar; case hFar => (first | omega | ((try simp [go_sem]) <;> omega))) | fail))), (by (repeat (first | (with_reducible assumption) | (with_reducible apply M.var_set45) | (with_reducible apply M.var_setBd) | (with_reducible apply M.var_setV) | (with_reducible refine M.var_alloc' _ _ _ ?_; first | rfl | (focus (simp [go_sem]; done))) | (with_reducible refine M.Var.alloc ?_ _) | (with_reducible refine M.Var.drewN ?_ _) | (with_reducible refine M.Var.drew ?_) | (with_reducible refine M.Var.far ?_ _ _ ?hFar; case hFar => (first | omega | ((try simp [go_sem]) <;> omega))) | fail))), trivial⟩) ?_
      clear hK K hTb hTS; intro hTb hTS
      try simp only [Act.put, List.setIfInBounds_toArray, List.set_cons_zero, List.set_cons_succ]
      refine wpTill_one (i := 10) (by kernel_rfl) rfl hTb (fun K hK => ?_)
      go_simp
      (with_reducible refine (CD.out e16 _ _ _ HH.out.nx HH.out.ny ixm _ (by (repeat (first | (with_reducible assumption) | (with_reducible refine M.pcell_alloc ?_ _) | (with_reducible refine M.pcell_drewN ?_ _) | (with_reducible refine M.pcell_drew ?_) | (with_reducible refine M.pcell_far ?_ _ _ ?hFar; case hFar => (first | omega | ((try simp [go_sem]) <;> omega))) | fail)))).mono ?_); rintro en w17 ⟨gx, gy, e17, rfl, igx, igy, hr, hb⟩
      have G17 : M.RW pb e17 w w17 := M.rw_step (by have G := HG16.out; (repeat (with_reducible refine M.Below.drewN ?_ _)); go_grown) hb hpb
      have S17 : w.heap.size ≤ w17.heap.size := by have := G17.size; rwa [M.setCell_size] at this
      have PC17 : M.PCell w17 pb e17 := M.pcell_behind hb (e := e16) (by (repeat (first | (with_reducible assumption) | (with_reducible refine M.pcell_alloc ?_ _) | (with_reducible refine M.pcell_drewN ?_ _) | (with_reducible refine M.pcell_drew ?_) | (with_reducible refine M.pcell_far ?_ _ _ ?hFar; case hFar => (first | omega | ((try simp [go_sem]) <;> omega))) | fail)))
      have V17_a : M.Var w17 (w.heap.size) #[.int .i64 c1.shape, .int .i64 c1.sx, .int .i64 c1.sy, .int .i64 c1.mass, .int .i64 c1.px, .int .i64 c1.py, .int .i64 c1.mx, .int .i64 c1.my] := M.var_rw (by (repeat (first | (with_reducible assumption) | (with_reducible apply M.var_set45) | (with_reducible apply M.var_setBd) | (with_reducible apply M.var_setV) | (with_reducible refine M.var_alloc' _ _ _ ?_; first | rfl | (focus (simp [go_sem]; done))) | (with_reducible refine M.Var.alloc ?_ _) | (with_reducible refine M.Var.drewN ?_ _) | (with_reducible refine M.Var.drew ?_) | (with_reducible refine M.Var.far ?_ _ _ ?hFar; case hFar => (first | omega | ((try simp [go_sem]) <;> omega))) | fail))) (by omega) hb
      have q17_a_0 : w17.cell? ⟨w.heap.size, 0, none⟩ = some (.int .i64 c1.shape) := V17_a.c 0 _ rfl
      have q17_a_1 : w17.cell? ⟨w.heap.size, 1, none⟩ = some (.int .i64 c1.sx) := V17_a.c 1 _ rfl
      have q17_a_2 : w17.cell? ⟨w.heap.size, 2, none⟩ = some (.int .i64 c1.sy) := V17_a.c 2 _ rfl
      have q17_a_3 : w17.cell? ⟨w.heap.size, 3, none⟩ = some (.int .i64 c1.mass) := V17_a.c 3 _ rfl
      have q17_a_4 : w17.cell? ⟨w.heap.size, 4, none⟩ = some (.int .i64 c1.px) := V17_a.c 4 _ rfl
      have q17_a_5 : w17.cell? ⟨w.heap.size, 5, none⟩ = some (.int .i64 c1.py) := V17_a.c 5 _ rfl
      have q17_a_6 : w17.cell? ⟨w.heap.size, 6, none⟩ = some (.int .i64 c1.mx) := V17_a.c 6 _ rfl
      have q17_a_7 : w17.cell? ⟨w.heap.size, 7, none⟩ = some (.int .i64 c1.my) := V17_a.c 7 _ rfl
      have f17_a := V17_a.2.2
      have L17_a := V17_a.lt
      have N17_a := Nat.ne_of_gt L17_a
      have M17_a := Nat.ne_of_lt L17_a
      have V17_b : M.Var w17 (w.heap.size + 1) #[.int .i64 c2.shape, .int .i64 c2.sx, .int .i64 c2.sy, .int .i64 c2.mass, .int .i64 c2.px, .int .i64 c2.py, .int .i64 c2.mx, .int .i64 c2.my] := M.var_rw (by (repeat (first | (with_reducible assumption) | (with_reducible apply M.var_set45) | (with_reducible apply M.var_setBd) | (with_reducible apply M.var_setV) | (with_reducible refine M.var_alloc' _ _ _ ?_; first | rfl | (focus (simp [go_sem]; done))) | (with_reducible refine M.Var.alloc ?_ _) | (with_reducible refine M.Var.drewN ?_ _) | (with_reducible refine M.Var.drew ?_) | (with_reducible refine M.Var.far ?_ _ _ ?hFar; case hFar => (first | omega | ((try simp [go_sem]) <;> omega))) | fail))) (by omega) hb
      have q17_b_0 : w17.cell? ⟨w.heap.size + 1, 0, none⟩ = some (.int .i64 c2.shape) := V17_b.c 0 _ rfl
      have q17_b_1 : w17.cell? ⟨w.heap.size + 1, 1, none⟩ = some (.int .i64 c2.sx) := V17_b.c 1 _ rfl
      have q17_b_2 : w17.cell? ⟨w.heap.size + 1, 2, none⟩ = some (.int .i64 c2.sy) := V17_b.c 2 _ rfl
      have q17_b_3 : w17.cell? ⟨w.heap.size + 1, 3, none⟩ = some (.int .i64 c2.mass) := V17_b.c 3 _ rfl
      have q17_b_4 : w17.cell? ⟨w.heap.size + 1, 4, none⟩ = some (.int .i64 c2.px) := V17_b.c 4 _ rfl
      have q17_b_5 : w17.cell? ⟨w.heap.size + 1, 5, none⟩ = some (.int .i64 c2.py) := V17_b.c 5 _ rfl
      have q17_b_6 : w17.cell? ⟨w.heap.size + 1, 6, none⟩ = some (.int .i64 c2.mx) := V17_b.c 6 _ rfl
      have q17_b_7 : w17.cell? ⟨w.heap.size + 1, 7, none⟩ = some (.int .i64 c2.my) := V17_b.c 7 _ rfl
      have f17_b := V17_b.2.2
      have L17_b := V17_b.lt
      have N17_b := Nat.ne_of_gt L17_b
      have M17_b := Nat.ne_of_lt L17_b
      have V17_h : M.Var w17 (w.heap.size + 1 + 1) #[.int .i64 h.nx, .int .i64 h.ny, .int .i64 h.d] := M.var_rw (by (repeat (first | (with_reducible assumption) | (with_reducible apply M.var_set45) | (with_reducible apply M.var_setBd) | (with_reducible apply M.var_setV) | (with_reducible refine M.var_alloc' _ _ _ ?_; first | rfl | (focus (simp [go_sem]; done))) | (with_reducible refine M.Var.alloc ?_ _) | (with_reducible refine M.Var.drewN ?_ _) | (with_reducible refine M.Var.drew ?_) | (with_reducible refine M.Var.far ?_ _ _ ?hFar; case hFar => (first | omega | ((try simp [go_sem]) <;> omega))) | fail))) (by omega) hb
      have q17_h_0 : w17.cell? ⟨w.heap.size + 1 + 1, 0, none⟩ = some (.int .i64 h.nx) := V17_h.c 0 _ rfl
      have q17_h_1 : w17.cell? ⟨w.heap.size + 1 + 1, 1, none⟩ = some (.int .i64 h.ny) := V17_h.c 1 _ rfl
      have q17_h_2 : w17.cell? ⟨w.heap.size + 1 + 1, 2, none⟩ = some (.int .i64 h.d) := V17_h.c 2 _ rfl
      have f17_h := V17_h.2.2
      have L17_h := V17_h.lt
      have N17_h := Nat.ne_of_gt L17_h
      have M17_h := Nat.ne_of_lt L17_h
      have V17_r : M.Var w17 (w.heap.size + 1 + 1 + 1) #[.int .i64 0, .int .i64 0, .int .i64 0, .int .i64 0, .int .i64 0, .int .i64 0, .int .i64 0, .int .i64 0] := M.var_rw (by (repeat (first | (with_reducible assumption) | (with_reducible apply M.var_set45) | (with_reducible apply M.var_setBd) | (with_reducible apply M.var_setV) | (with_reducible refine M.var_alloc' _ _ _ ?_; first | rfl | (focus (simp [go_sem]; done))) | (with_reducible refine M.Var.alloc ?_ _) | (with_reducible refine M.Var.drewN ?_ _) | (with_reducible refine M.Var.drew ?_) | (with_reducible refine M.Var.far ?_ _ _ ?hFar; case hFar => (first | omega | ((try simp [go_sem]) <;> omega))) | fail))) (by omega) hb
      have q17_r_0 : w17.cell? ⟨w.heap.size + 1 + 1 + 1, 0, none⟩ = some (.int .i64 0) := V17_r.c 0 _ rfl
      have q17_r_1 : w17.cell? ⟨w.heap.size + 1 + 1 + 1, 1, none⟩ = some (.int .i64 0) := V17_r.c 1 _ rfl
      have q17_r_2 : w17.cell? ⟨w.heap.size + 1 + 1 + 1, 2, none⟩ = some (.int .i64 0) := V17_r.c 2 _ rfl
      have q17_r_3 : w17.cell? ⟨w.heap.size + 1 + 1 + 1, 3, none⟩ = some (.int .i64 0) := V17_r.c 3 _ rfl
      have q17_r_4 : w17.cell? ⟨w.heap.size + 1 + 1 + 1, 4, none⟩ = some (.int .i64 0) := V17_r.c 4 _ rfl
      have q17_r_5 : w17.cell? ⟨w.heap.size + 1 + 1 + 1, 5, none⟩ = some (.int .i64 0) := V17_r.c 5 _ rfl
      have q17_r_6 : w17.cell? ⟨w.heap.size + 1 + 1 + 1, 6, none⟩ = some (.int .i64 0) := V17_r.c 6 _ rfl
      have q17_r_7 : w17.cell? ⟨w.heap.size + 1 + 1 + 1, 7, none⟩ = some (.int .i64 0) := V17_r.c 7 _ rfl
      have f17_r := V17_r.2.2
      have L17_r := V17_r.lt
      have N17_r := Nat.ne_of_gt L17_r
      have M17_r := Nat.ne_of_lt L17_r
      have V17_s : M.Var w17 (w.heap.size + 1 + 1 + 1 + 1) #[.int .i64 0, .int .i64 0, .int .i64 0, .int .i64 0, .int .i64 0, .int .i64 0, .int .i64 0, .int .i64 0] := M.var_rw (by (repeat (first | (with_reducible assumption) | (with_reducible apply M.var_set45) | (with_reducible apply M.var_setBd) | (with_reducible apply M.var_setV) | (with_reducible refine M.var_alloc' _ _ _ ?_; first | rfl | (focus (simp [go_sem]; done))) | (with_reducible refine M.Var.alloc ?_ _) | (with_reducible refine M.Var.drewN ?_ _) | (with_reducible refine M.Var.drew ?_) | (with_reducible refine M.Var.far ?_ _ _ ?hFar; case hFar => (first | omega | ((try simp [go_sem]) <;> omega))) | fail))) (by omega) hb
      have q17_s_0 : w17.cell? ⟨w.heap.size + 1 + 1 + 1 + 1, 0, none⟩ = some (.int .i64 0) := V17_s.c 0 _ rfl
      have q17_s_1 : w17.cell? ⟨w.heap.size + 1 + 1 + 1 + 1, 1, none⟩ = some (.int .i64 0) := V17_s.c 1 _ rfl
      have q17_s_2 : w17.cell? ⟨w.heap.size + 1 + 1 + 1 + 1, 2, none⟩ = some (.int .i64 0) := V17_s.c 2 _ rfl
      have q17_s_3 : w17.cell? ⟨w.heap.size + 1 + 1 + 1 + 1, 3, none⟩ = some (.int .i64 0) := V17_s.c 3 _ rfl
      have q17_s_4 : w17.cell? ⟨w.heap.size + 1 + 1 + 1 + 1, 4, none⟩ = some (.int .i64 0) := V17_s.c 4 _ rfl
      have q17_s_5 : w17.cell? ⟨w.heap.size + 1 + 1 + 1 + 1, 5, none⟩ = some (.int .i64 0) := V17_s.c 5 _ rfl
      have q17_s_6 : w17.cell? ⟨w.heap.size + 1 + 1 + 1 + 1, 6, none⟩ = some (.int .i64 0) := V17_s.c 6 _ rfl
      have q17_s_7 : w17.cell? ⟨w.heap.size + 1 + 1 + 1 + 1, 7, none⟩ = some (.int .i64 0) := V17_s.c 7 _ rfl
      have f17_s := V17_s.2.2
      have L17_s := V17_s.lt
      have N17_s := Nat.ne_of_gt L17_s
      have M17_s := Nat.ne_of_lt L17_s
      clear V16_a f16_a L16_a N16_a M16_a q16_a_0 q16_a_1 q16_a_2 q16_a_3 q16_a_4 q16_a_5 q16_a_6 q16_a_7 V16_b f16_b L16_b N16_b M16_b q16_b_0 q16_b_1 q16_b_2 q16_b_3 q16_b_4 q16_b_5 q16_b_6 q16_b_7 V16_h f16_h L16_h N16_h M16_h q16_h_0 q16_h_1 q16_h_2 V16_r f16_r L16_r N16_r M16_r q16_r_0 q16_r_1 q16_r_2 q16_r_3 q16_r_4 q16_r_5 q16_r_6 q16_r_7 V16_s f16_s L16_s N16_s M16_s q16_s_0 q16_s_1 q16_s_2 q16_s_3 q16_s_4 q16_s_5 q16_s_6 q16_s_7 PC16 c16_pb f16_pb L16_pb N16_pb M16_pb
      have HR17 := Lib.hid hr; clear hr
      have c17_pb := PC17.2.1; have f17_pb := PC17.2.2; have L17_pb := PC17.1; have N17_pb := Nat.ne_of_gt L17_pb; have M17_pb := Nat.ne_of_lt L17_pb
      have HG17 := Lib.hid G17; clear G17 hb
      (try go_simp)
      refine hK.out _ _ (Lib.hid ⟨(fun _ => by (repeat (first | (with_reducible assumption) | (with_reducible apply M.var_set45) | (with_reducible apply M.var_setBd) | (with_reducible apply M.var_setV) | (with_reducible refine M.var_alloc' _ _ _ ?_; first | rfl | (focus (simp [go_sem]; done))) | (with_reducible refine M.Var.alloc ?_ _) | (with_reducible refine M.Var.drewN ?_ _) | (with_reducible refine M.Var.drew ?_) | (with_reducible refine M.Var.far ?_ _ _ ?hFar; case hFar => (first | omega | ((try simp [go_sem]) <;> omega))) | fail))), (by (repeat (first | (with_reducible assumption) | (with_reducible apply M.var_set45) | (with_reducible apply M.var_setBd) | (with_reducible apply M.var_setV) | (with_reducible refine M.var_alloc' _ _ _ ?_; first | rfl | (focus (simp [go_sem]; done))) | (with_reducible refine M.Var.alloc ?_ _) | (with_reducible refine M.Var.drewN ?_ _) | (with_reducible refine M.Var.drew ?_) | (with_reducible refine M.Var.far ?_ _ _ ?hFar; case hFar => (first | omega | ((try simp [go_sem]) <;> omega))) | fail))), trivial⟩) ?_
      clear hK K hTb hTS; intro hTb hTS
      try simp only [Act.put, List.setIfInBounds_toArray, List.set_cons_zero, List.set_cons_succ]
      refine wpTill_one (i := 11) (by kernel_rfl) rfl hTb (fun K hK => ?_)
      go_simp
      (with_reducible refine (C8.out e17 _ _ _ _ i1.px i1.py igx igy _ (by (repeat (first | (with_reducible assumption) | (with_reducible refine M.pcell_alloc ?_ _) | (with_reducible refine M.pcell_drewN ?_ _) | (with_reducible refine M.pcell_drew ?_) | (with_reducible refine M.pcell_far ?_ _ _ ?hFar; case hFar => (first | omega | ((try simp [go_sem]) <;> omega))) | fail)))).mono ?_); rintro en w18 ⟨px, py, e18, rfl, ipx, ipy, hr, hb⟩
      have G18 : M.RW pb e18 w w18 := M.rw_step (by have G := HG17.out; (repeat (with_reducible refine M.Below.drewN ?_ _)); go_grown) hb hpb
      have S18 : w.heap.size ≤ w18.heap.size := by have := G18.size; rwa [M.setCell_size] at this
      have PC18 : M.PCell w18 pb e18 := M.pcell_behind hb (e := e17) (by (repeat (first | (with_reducible assumption) | (with_reducible refine M.pcell_alloc ?_ _) | (with_reducible refine M.pcell_drewN ?_ _) | (with_reducible refine M.pcell_drew ?_) | (with_reducible refine M.pcell_far ?_ _ _ ?hFar; case hFar => (first | omega | ((try simp [go_sem]) <;> omega))) | fail)))
      have V18_a : M.Var w18 (w.heap.size) #[.int .i64 c1.shape, .int .i64 c1.sx, .int .i64 c1.sy, .int .i64 c1.mass, .int .i64 c1.px, .int .i64 c1.py, .int .i64 c1.mx, .int .i64 c1.my] := M.var_rw (by (repeat (first | (with_reducible assumption) | (with_reducible apply M.var_set45) | (with_reducible apply M.var_setBd) | (with_reducible apply M.var_setV) | (with_reducible refine M.var_alloc' _ _ _ ?_; first | rfl | (focus (simp [go_sem]; done))) | (with_reducible refine M.Var.alloc ?_ _) | (with_reducible refine M.Var.drewN ?_ _) | (with_reducible refine M.Var.drew ?_) | (with_reducible refine M.Var.far ?_ _ _ ?hFar; case hFar => (first | omega | ((try simp [go_sem]) <;> omega))) | fail))) (by omega) hb
      have q18_a_0 : w18.cell? ⟨w.heap.size, 0, none⟩ = some (.int .i64 c1.shape) := V18_a.c 0 _ rfl
      have q18_a_1 : w18.cell? ⟨w.heap.size, 1, none⟩ = some (.int .i64 c1.sx) := V18_a.c 1 _ rfl
      have q18_a_2 : w18.cell? ⟨w.heap.size, 2, none⟩ = some (.int .i64 c1.sy) := V18_a.c 2 _ rfl
      have q18_a_3 : w18.cell? ⟨w.heap.size, 3, none⟩ = some (.int .i64 c1.mass) := V18_a.c 3 _ rfl
      have q18_a_4 : w18.cell? ⟨w.heap.size, 4, none⟩ = some (.int .i64 c1.px) := V18_a.c 4 _ rfl
      have q18_a_5 : w18.cell? ⟨w.heap.size, 5, none⟩ = some (.int .i64 c1.py) := V18_a.c 5 _ rfl
      have q18_a_6 : w18.cell? ⟨w.heap.size, 6, none⟩ = some (.int .i64 c1.mx) := V18_a.c 6 _ rfl
      have q18_a_7 : w18.cell? ⟨w.heap.size, 7, none⟩ = some (.int .i64 c1.my) := V18_a.c 7 _ rfl
      have f18_a := V18_a.2.2
      have L18_a := V18_a.lt
      have N18_a := Nat.ne_of_gt L18_a
      have M18_a := Nat.ne_of_lt L18_a
      have V18_b : M.Var w18 (w.heap.size + 1) #[.int .i64 c2.shape, .int .i64 c2.sx, .int .i64 c2.sy, .int .i64 c2.mass, .int .i64 c2.px, .int .i64 c2.py, .int .i64 c2.mx, .int .i64 c2.my] := M.var_rw (by (repeat (first | (with_reducible assumption) | (with_reducible apply M.var_set45) | (with_reducible apply M.var_setBd) | (with_reducible apply M.var_setV) | (with_reducible refine M.var_alloc' _ _ _ ?_; first | rfl | (focus (simp [go_sem]; done))) | (with_reducible refine M.Var.alloc ?_ _) | (with_reducible refine M.Var.drewN ?_ _) | (with_reducible refine M.Var.drew ?_) | (with_reducible refine M.Var.far ?_ _ _ ?hFar; case hFar => (first | omega | ((try simp [go_sem]) <;> omega))) | fail))) (by omega) hb
      have q18_b_0 : w18.cell? ⟨w.heap.size + 1, 0, none⟩ = some (.int .i64 c2.shape) := V18_b.c 0 _ rfl
      have q18_b_1 : w18.cell? ⟨w.heap.size + 1, 1, none⟩ = some (.int .i64 c2.sx) := V18_b.c 1 _ rfl
      have q18_b_2 : w18.cell? ⟨w.heap.size + 1, 2, none⟩ = some (.int .i64 c2.sy) := V18_b.c 2 _ rfl
      have q18_b_3 : w18.cell? ⟨w.heap.size + 1, 3, none⟩ = some (.int .i64 c2.mass) := V18_b.c 3 _ rfl
      have q18_b_4 : w18.cell? ⟨w.heap.size + 1, 4, none⟩ = some (.int .i64 c2.px) := V18_b.c 4 _ rfl
      have q18_b_5 : w18.cell? ⟨w.heap.size + 1, 5, none⟩ = some (.int .i64 c2.py) := V18_b.c 5 _ rfl
      have q18_b_6 : w18.cell? ⟨w.heap.size + 1, 6, none⟩ = some (.int .i64 c2.mx) := V18_b.c 6 _ rfl
      have q18_b_7 : w18.cell? ⟨w.heap.size + 1, 7, none⟩ = some (.int .i64 c2.my) := V18_b.c 7 _ rfl
      have f18_b := V18_b.2.2
      have L18_b := V18_b.lt
      have N18_b := Nat.ne_of_gt L18_b
      have M18_b := Nat.ne_of_lt L18_b
      have V18_h : M.Var w18 (w.heap.size + 1 + 1) #[.int .i64 h.nx, .int .i64 h.ny, .int .i64 h.d] := M.var_rw (by (repeat (first | (with_reducible assumption) | (with_reducible apply M.var_set45) | (with_reducible apply M.var_setBd) | (with_reducible apply M.var_setV) | (with_reducible refine M.var_alloc' _ _ _ ?_; first | rfl | (focus (simp [go_sem]; done))) | (with_reducible refine M.Var.alloc ?_ _) | (with_reducible refine M.Var.drewN ?_ _) | (with_reducible refine M.Var.drew ?_) | (with_reducible refine M.Var.far ?_ _ _ ?hFar; case hFar => (first | omega | ((try simp [go_sem]) <;> omega))) | fail))) (by omega) hb
      have q18_h_0 : w18.cell? ⟨w.heap.size + 1 + 1, 0, none⟩ = some (.int .i64 h.nx) := V18_h.c 0 _ rfl
      have q18_h_1 : w18.cell? ⟨w.heap.size + 1 + 1, 1, none⟩ = some (.int .i64 h.ny) := V18_h.c 1 _ rfl
      have q18_h_2 : w18.cell? ⟨w.heap.size + 1 + 1, 2, none⟩ = some (.int .i64 h.d) := V18_h.c 2 _ rfl
      have f18_h := V18_h.2.2
      have L18_h := V18_h.lt
      have N18_h := Nat.ne_of_gt L18_h
      have M18_h := Nat.ne_of_lt L18_h
      have V18_r : M.Var w18 (w.heap.size + 1 + 1 + 1) #[.int .i64 0, .int .i64 0, .int .i64 0, .int .i64 0, .int .i64 0, .int .i64 0, .int .i64 0, .int .i64 0] := M.var_rw (by (repeat (first | (with_reducible assumption) | (with_reducible apply M.var_set45) | (with_reducible apply M.var_setBd) | (with_reducible apply M.var_setV) | (with_reducible refine M.var_alloc' _ _ _ ?_; first | rfl | (focus (simp [go_sem]; done))) | (with_reducible refine M.Var.alloc ?_ _) | (with_reducible refine M.Var.drewN ?_ _) | (with_reducible refine M.Var.drew ?_) | (with_reducible refine M.Var.far ?_ _ _ ?hFar; case hFar => (first | omega | ((try simp [go_sem]) <;> omega))) | fail))) (by omega) hb
      have q18_r_0 : w18.cell? ⟨w.heap.size + 1 + 1 + 1, 0, none⟩ = some (.int .i64 0) := V18_r.c 0 _ rfl
      have q18_r_1 : w18.cell? ⟨w.heap.size + 1 + 1 + 1, 1, none⟩ = some (.int .i64 0) := V18_r.c 1 _ rfl
      have q18_r_2 : w18.cell? ⟨w.heap.size + 1 + 1 + 1, 2, none⟩ = some (.int .i64 0) := V18_r.c 2 _ rfl
      have q18_r_3 : w18.cell? ⟨w.heap.size + 1 + 1 + 1, 3, none⟩ = some (.int .i64 0) := V18_r.c 3 _ rfl
      have q18_r_4 : w18.cell? ⟨w.heap.size + 1 + 1 + 1, 4, none⟩ = some (.int .i64 0) := V18_r.c 4 _ rfl
      have q18_r_5 : w18.cell? ⟨w.heap.size + 1 + 1 + 1, 5, none⟩ = some (.int .i64 0) := V18_r.c 5 _ rfl
      have q18_r_6 : w18.cell? ⟨w.heap.size + 1 + 1 + 1, 6, none⟩ = some (.int .i64 0) := V18_r.c 6 _ rfl
      have q18_r_7 : w18.cell? ⟨w.heap.size + 1 + 1 + 1, 7, none⟩ = some (.int .i64 0) := V18_r.c 7 _ rfl
      have f18_r := V18_r.2.2
      have L18_r := V18_r.lt
      have N18_r := Nat.ne_of_gt L18_r
      have M18_r := Nat.ne_of_lt L18_r
      have V18_s : M.Var w18 (w.heap.size + 1 + 1 + 1 + 1) #[.int .i64 0, .int .i64 0, .int .i64 0, .int .i64 0, .int .i64 0, .int .i64 0, .int .i64 0, .int .i64 0] := M.var_rw (by (repeat (first | (with_reducible assumption) | (with_reducible apply M.var_set45) | (with_reducible apply M.var_setBd) | (with_reducible apply M.var_setV) | (with_reducible refine M.var_alloc' _ _ _ ?_; first | rfl | (focus (simp [go_sem]; done))) | (with_reducible refine M.Var.alloc ?_ _) | (with_reducible refine M.Var.drewN ?_ _) | (with_reducible refine M.Var.drew ?_) | (with_reducible refine M.Var.far ?_ _ _ ?hFar; case hFar => (first | omega | ((try simp [go_sem]) <;> omega))) | fail))) (by omega) hb
      have q18_s_0 : w18.cell? ⟨w.heap.size + 1 + 1 + 1 + 1, 0, none⟩ = some (.int .i64 0) := V18_s.c 0 _ rfl
      have q18_s_1 : w18.cell? ⟨w.heap.size + 1 + 1 + 1 + 1, 1, none⟩ = some (.int .i64 0) := V18_s.c 1 _ rfl
      have q18_s_2 : w18.cell? ⟨w.heap.size + 1 + 1 + 1 + 1, 2, none⟩ = some (.int .i64 0) := V18_s.c 2 _ rfl
      have q18_s_3 : w18.cell? ⟨w.heap.size + 1 + 1 + 1 + 1, 3, none⟩ = some (.int .i64 0) := V18_s.c 3 _ rfl
      have q18_s_4 : w18.cell? ⟨w.heap.size + 1 + 1 + 1 + 1, 4, none⟩ = some (.int .i64 0) := V18_s.c 4 _ rfl
      have q18_s_5 : w18.cell? ⟨w.heap.size + 1 + 1 + 1 + 1, 5, none⟩ = some (.int .i64 0) := V18_s.c 5 _ rfl
      have q18_s_6 : w18.cell? ⟨w.heap.size + 1 + 1 + 1 + 1, 6, none⟩ = some (.int .i64 0) := V18_s.c 6 _ rfl
      have q18_s_7 : w18.cell? ⟨w.heap.size + 1 + 1 + 1 + 1, 7, none⟩ = some (.int .i64 0) := V18_s.c 7 _ rfl
      have f18_s := V18_s.2.2
      have L18_s := V18_s.lt
      have N18_s := Nat.ne_of_gt L18_s
      have M18_s := Nat.ne_of_lt L18_s
      clear V17_a f17_a L17_a N17_a M17_a q17_a_0 q17_a_1 q17_a_2 q17_a_3 q17_a_4 q17_a_5 q17_a_6 q17_a_7 V17_b f17_b L17_b N17_b M17_b q17_b_0 q17_b_1 q17_b_2 q17_b_3 q17_b_4 q17_b_5 q17_b_6 q17_b_7 V17_h f17_h L17_h N17_h M17_h q17_h_0 q17_h_1 q17_h_2 V17_r f17_r L17_r N17_r M17_r q17_r_0 q17_r_1 q17_r_2 q17_r_3 q17_r_4 q17_r_5 q17_r_6 q17_r_7 V17_s f17_s L17_s N17_s M17_s q17_s_0 q17_s_1 q17_s_2 q17_s_3 q17_s_4 q17_s_5 q17_s_6 q17_s_7 PC17 c17_pb f17_pb L17_pb N17_pb M17_pb
      have HR18 := Lib.hid hr; clear hr
      have c18_pb := PC18.2.1; have f18_pb := PC18.2.2; have L18_pb := PC18.1; have N18_pb := Nat.ne_of_gt L18_pb; have M18_pb := Nat.ne_of_lt L18_pb
      have HG18 := Lib.hid G18; clear G18 hb
      (try go_simp)
      refine hK.out _ _ (Lib.hid ⟨(fun _ => by (repeat (first | (with_reducible assumption) | (with_reducible apply M.var_set45) | (with_reducible apply M.var_setBd) | (with_reducible apply M.var_setV) | (with_reducible refine M.var_alloc' _ _ _ ?_; first | rfl | (focus (simp [go_sem]; done))) | (with_reducible refine M.Var.alloc ?_ _) | (with_reducible refine M.Var.drewN ?_ _) | (with_reducible refine M.Var.drew ?_) | (with_reducible refine M.Var.far ?_ _ _ ?hFar; case hFar => (first | omega | ((try simp [go_sem]) <;> omega))) | fail))), (by (repeat (first | (with_reducible assumption) | (with_reducible apply M.var_set45) | (with_reducible apply M.var_setBd) | (with_reducible apply M.var_setV) | (with_reducible refine M.var_alloc' _ _ _ ?_; first | rfl | (focus (simp [go_sem]; done))) | (with_reducible refine M.Var.alloc ?_ _) | (with_reducible refine M.Var.drewN ?_ _) | (with_reducible refine M.Var.drew ?_) | (with_reducible refine M.Var.far ?_ _ _ ?hFar; case hFar => (first | omega | ((try simp [go_sem]) <;> omega))) | fail))), trivial⟩) ?_
      clear hK K hTb hTS; intro hTb hTS
      try simp only [Act.put, List.setIfInBounds_toArray, List.set_cons_zero, List.set_cons_succ]
      refine wpTill_take (i := 12) (v := ?_) rfl (by kernel_rfl) (by kernel_rfl) (by kernel_rfl) hTb (fun _ _ _ h => h) (fun _ _ => by simp only [getD_set_ne false (show 12 ≠ 13 by decide)]) (Or.inl ⟨by rfl, ?_⟩) hTS ?_
      rotate_left
      · intro wT hT; clear hT
        go_simp
        all_goals with_reducible rfl
      clear hTb hTS; intro hTb hTS
      try simp only [Act.put, List.setIfInBounds_toArray, List.set_cons_zero, List.set_cons_succ]
      refine wpTill_one (i := 13) (by kernel_rfl) rfl hTb (fun K hK => ?_)
      go_simp
      (try go_simp)
      refine hK.out _ _ (Lib.hid ⟨till_gone (by kernel_rfl), (by (repeat (first | (with_reducible assumption) | (with_reducible apply M.var_set45) | (with_reducible apply M.var_setBd) | (with_reducible apply M.var_setV) | (with_reducible refine M.var_alloc' _ _ _ ?_; first | rfl | (focus (simp [go_sem]; done))) | (with_reducible refine M.Var.alloc ?_ _) | (with_reducible refine M.Var.drewN ?_ _) | (with_reducible refine M.Var.drew ?_) | (with_reducible refine M.Var.far ?_ _ _ ?hFar; case hFar => (first | omega | ((try simp [go_sem]) <;> omega))) | fail))), trivial⟩) ?_
      clear hK K hTb hTS; intro hTb hTS
      try simp only [Act.put, List.setIfInBounds_toArray, List.set_cons_zero, List.set_cons_succ]
      refine wpTill_done (by kernel_rfl) ?_ _; clear hTb hTS
      go_wp2_with (with_reducible refine M.stopPost ?_)
      refine wp_region_till (S := fun sT wT' => Hid ((sT.getD 13 false = false → M.Var wT' (w.heap.size + 1) #[.int .i64 c2.shape, .int .i64 c2.sx, .int .i64 c2.sy, .int .i64 c2.mass, .int .i64 c2.px, .int .i64 c2.py, .int .i64 c2.mx, .int .i64 c2.my]) ∧ M.Var wT' (w.heap.size + 1 + 1) #[.int .i64 h.nx, .int .i64 h.ny, .int .i64 h.d] ∧ True)) (by kernel_rfl) (Lib.hid ⟨(fun _ => by (repeat (first | (with_reducible assumption) | (with_reducible apply M.var_set45) | (with_reducible apply M.var_setBd) | (with_reducible apply M.var_setV) | (with_reducible refine M.var_alloc' _ _ _ ?_; first | rfl | (focus (simp [go_sem]; done))) | (with_reducible refine M.Var.alloc ?_ _) | (with_reducible refine M.Var.drewN ?_ _) | (with_reducible refine M.Var.drew ?_) | (with_reducible refine M.Var.far ?_ _ _ ?hFar; case hFar => (first | omega | ((try simp [go_sem]) <;> omega))) | fail))), (by (repeat (first | (with_reducible assumption) | (with_reducible apply M.var_set45) | (with_reducible apply M.var_setBd) | (with_reducible apply M.var_setV) | (with_reducible refine M.var_alloc' _ _ _ ?_; first | rfl | (focus (simp [go_sem]; done))) | (with_reducible refine M.Var.alloc ?_ _) | (with_reducible refine M.Var.drewN ?_ _) | (with_reducible refine M.Var.drew ?_) | (with_reducible refine M.Var.far ?_ _ _ ?hFar; case hFar => (first | omega | ((try simp [go_sem]) <;> omega))) | fail))), trivial⟩) ?_
      intro hTb hTS
      refine wpTill_take (i := 0) (v := ?_) rfl (by kernel_rfl) (by kernel_rfl) (by kernel_rfl) hTb (fun _ _ _ h => h) (fun _ _ => by simp only [getD_set_ne false (show 0 ≠ 13 by decide)]) (Or.inl ⟨by rfl, ?_⟩) hTS ?_
      rotate_left
      · intro wT hT; clear hT
        go_simp
        all_goals with_reducible rfl
      clear hTb hTS; intro hTb hTS
      try simp only [Act.put, List.setIfInBounds_toArray, List.set_cons_zero, List.set_cons_succ]
      refine wpTill_take (i := 1) (v := ?_) rfl (by kernel_rfl) (by kernel_rfl) (by kernel_rfl) hTb (fun _ _ _ h => h) (fun _ _ => by simp only [getD_set_ne false (show 1 ≠ 13 by decide)]) (Or.inl ⟨by rfl, ?_⟩) hTS ?_
      rotate_left
      · intro wT hT; clear hT
        go_simp
        all_goals with_reducible rfl
      clear hTb hTS; intro hTb hTS
      try simp only [Act.put, List.setIfInBounds_toArray, List.set_cons_zero, List.set_cons_succ]
      refine wpTill_take (i := 2) (v := ?_) rfl (by kernel_rfl) (by kernel_rfl) (by kernel_rfl) hTb (fun _ _ _ h => h) (fun _ _ => by simp only [getD_set_ne false (show 2 ≠ 13 by decide)]) (Or.inl ⟨by rfl, ?_⟩) hTS ?_
      rotate_left
      · rintro wT ⟨sT, hbT, huT, hST⟩
        have zT_b_0 := (hST.out.1 (till_flag (k := 13) (by kernel_rfl) hbT huT)).c 0 _ rfl
        have zT_b_1 := (hST.out.1 (till_flag (k := 13) (by kernel_rfl) hbT huT)).c 1 _ rfl
        have zT_b_2 := (hST.out.1 (till_flag (k := 13) (by kernel_rfl) hbT huT)).c 2 _ rfl
        have zT_b_3 := (hST.out.1 (till_flag (k := 13) (by kernel_rfl) hbT huT)).c 3 _ rfl
        have zT_b_4 := (hST.out.1 (till_flag (k := 13) (by kernel_rfl) hbT huT)).c 4 _ rfl
        have zT_b_5 := (hST.out.1 (till_flag (k := 13) (by kernel_rfl) hbT huT)).c 5 _ rfl
        have zT_b_6 := (hST.out.1 (till_flag (k := 13) (by kernel_rfl) hbT huT)).c 6 _ rfl
        have zT_b_7 := (hST.out.1 (till_flag (k := 13) (by kernel_rfl) hbT huT)).c 7 _ rfl
        have zT_h_0 := hST.out.2.1.c 0 _ rfl
        have zT_h_1 := hST.out.2.1.c 1 _ rfl
        have zT_h_2 := hST.out.2.1.c 2 _ rfl
        clear hST hbT huT
        go_simp
        all_goals with_reducible rfl
      clear hTb hTS; intro hTb hTS
      try simp only [Act.put, List.setIfInBounds_toArray, List.set_cons_zero, List.set_cons_succ]
      refine wpTill_take (i := 3) (v := ?_) rfl (by kernel_rfl) (by kernel_rfl) (by kernel_rfl) hTb (fun _ _ _ h => h) (fun _ _ => by simp only [getD_set_ne false (show 3 ≠ 13 by decide)]) (Or.inl ⟨by rfl, ?_⟩) hTS ?_
      rotate_left
      · intro wT hT; clear hT
        go_simp
        all_goals with_reducible rfl
      clear hTb hTS; intro hTb hTS
      try simp only [Act.put, List.setIfInBounds_toArray, List.set_cons_zero, List.set_cons_succ]
      refine wpTill_take (i := 4) (v := ?_) rfl (by kernel_rfl) (by kernel_rfl) (by kernel_rfl) hTb (fun _ _ _ h => h) (fun _ _ => by simp only [getD_set_ne false (show 4 ≠ 13 by decide)]) (Or.inl ⟨by rfl, ?_⟩) hTS ?_
      rotate_left
      · intro wT hT; clear hT
        go_simp
        all_goals with_reducible rfl
      clear hTb hTS; intro hTb hTS
      try simp only [Act.put, List.setIfInBounds_toArray, List.set_cons_zero, List.set_cons_succ]
      refine wpTill_take (i := 5) (v := ?_) rfl (by kernel_rfl) (by kernel_rfl) (by kernel_rfl) hTb (fun _ _ _ h => h) (fun _ _ => by simp only [getD_set_ne false (show 5 ≠ 13 by decide)]) (Or.inl ⟨by rfl, ?_⟩) hTS ?_
      rotate_left
      · rintro wT ⟨sT, hbT, huT, hST⟩
        have zT_b_0 := (hST.out.1 (till_flag (k := 13) (by kernel_rfl) hbT huT)).c 0 _ rfl
        have zT_b_1 := (hST.out.1 (till_flag (k := 13) (by kernel_rfl) hbT huT)).c 1 _ rfl
        have zT_b_2 := (hST.out.1 (till_flag (k := 13) (by kernel_rfl) hbT huT)).c 2 _ rfl
        have zT_b_3 := (hST.out.1 (till_flag (k := 13) (by kernel_rfl) hbT huT)).c 3 _ rfl
        have zT_b_4 := (hST.out.1 (till_flag (k := 13) (by kernel_rfl) hbT huT)).c 4 _ rfl
        have zT_b_5 := (hST.out.1 (till_flag (k := 13) (by kernel_rfl) hbT huT)).c 5 _ rfl
        have zT_b_6 := (hST.out.1 (till_flag (k := 13) (by kernel_rfl) hbT huT)).c 6 _ rfl
        have zT_b_7 := (hST.out.1 (till_flag (k := 13) (by kernel_rfl) hbT huT)).c 7 _ rfl
        have zT_h_0 := hST.out.2.1.c 0 _ rfl
        have zT_h_1 := hST.out.2.1.c 1 _ rfl
        have zT_h_2 := hST.out.2.1.c 2 _ rfl
        clear hST hbT huT
        go_simp
        all_goals with_reducible rfl
      clear hTb hTS; intro hTb hTS
      try simp only [Act.put, List.setIfInBounds_toArray, List.set_cons_zero, List.set_cons_succ]
      refine wpTill_take (i := 6) (v := ?_) rfl (by kernel_rfl) (by kernel_rfl) (by kernel_rfl) hTb (fun _ _ _ h => h) (fun _ _ => by simp only [getD_set_ne false (show 6 ≠ 13 by decide)]) (Or.inl ⟨by rfl, ?_⟩) hTS ?_
      rotate_left
      · intro wT hT; clear hT
        go_simp
        all_goals with_reducible rfl
      clear hTb hTS; intro hTb hTS
      try simp only [Act.put, List.setIfInBounds_toArray, List.set_cons_zero, List.set_cons_succ]
      refine wpTill_take (i := 7) (v := ?_) rfl (by kernel_rfl) (by kernel_rfl) (by kernel_rfl) hTb (fun _ _ _ h => h) (fun _ _ => by simp only [getD_set_ne false (show 7 ≠ 13 by decide)]) (Or.inl ⟨by rfl, ?_⟩) hTS ?_
      rotate_left
      · intro wT hT; clear hT
        go_simp
        all_goals with_reducible rfl
      clear hTb hTS; intro hTb hTS
      try simp only [Act.put, List.setIfInBounds_toArray, List.set_cons_zero, List.set_cons_succ]
      refine wpTill_take (i := 8) (v := ?_) rfl (by kernel_rfl) (by kernel_rfl) (by kernel_rfl) hTb (fun _ _ _ h => h) (fun _ _ => by simp only [getD_set_ne false (show 8 ≠ 13 by decide)]) (Or.inl ⟨by rfl, ?_⟩) hTS ?_
      rotate_left
      · intro wT hT; clear hT
        go_simp
        all_goals with_reducible rfl
      clear hTb hTS; intro hTb hTS
      try simp only [Act.put, List.setIfInBounds_toArray, List.set_cons_zero, List.set_cons_succ]
      refine wpTill_one (i := 9) (by kernel_rfl) rfl hTb (fun K hK => ?_)
      go_simp
      (with_reducible refine (CB.out e18 _ _ ic ilb _ (by (repeat (first | (with_reducible assumption) | (with_reducible refine M.pcell_alloc ?_ _) | (with_reducible refine M.pcell_drewN ?_ _) | (with_reducible refine M.pcell_drew ?_) | (with_reducible refine M.pcell_far ?_ _ _ ?hFar; case hFar => (first | omega | ((try simp [go_sem]) <;> omega))) | fail)))).mono ?_); rintro en w19 ⟨ym, e19, rfl, iym, hr, hb⟩
      have G19 : M.RW pb e19 w w19 := M.rw_step (by have G := HG18.out; (repeat (with_reducible refine M.Below.drewN ?_ _)); go_grown) hb hpb
      have S19 : w.heap.size ≤ w19.heap.size := by have := G19.size; rwa [M.setCell_size] at this
      have PC19 : M.PCell w19 pb e19 := M.pcell_behind hb (e := e18) (by (repeat (first | (with_reducible assumption) | (with_reducible refine M.pcell_alloc ?_ _) | (with_reducible refine M.pcell_drewN ?_ _) | (with_reducible refine M.pcell_drew ?_) | (with_reducible refine M.pcell_far ?_ _ _ ?hFar; case hFar => (first | omega | ((try simp [go_sem]) <;> omega))) | fail)))
      have V19_a : M.Var w19 (w.heap.size) #[.int .i64 c1.shape, .int .i64 c1.sx, .int .i64 c1.sy, .int .i64 c1.mass, .int .i64 px, .int .i64 py, .int .i64 c1.mx, .int .i64 c1.my] := M.var_rw (by (repeat (first | (with_reducible assumption) | (with_reducible apply M.var_set45) | (with_reducible apply M.var_setBd) | (with_reducible apply M.var_setV) | (with_reducible refine M.var_alloc' _ _ _ ?_; first | rfl | (focus (simp [go_sem]; done))) | (with_reducible refine M.Var.alloc ?_ _) | (with_reducible refine M.Var.drewN ?_ _) | (with_reducible refine M.Var.drew ?_) | (with_reducible refine M.Var.far ?_ _ _ ?hFar; case hFar => (first | omega | ((try simp [go_sem]) <;> omega))) | fail))) (by omega) hb
      have q19_a_0 : w19.cell? ⟨w.heap.size, 0, none⟩ = some (.int .i64 c1.shape) := V19_a.c 0 _ rfl
      have q19_a_1 : w19.cell? ⟨w.heap.size, 1, none⟩ = some (.int .i64 c1.sx) := V19_a.c 1 _ rfl
      have q19_a_2 : w19.cell? ⟨w.heap.size, 2, none⟩ = some (.int .i64 c1.sy) := V19_a.c 2 _ rfl
      have q19_a_3 : w19.cell? ⟨w.heap.size, 3, none⟩ = some (.int .i64 c1.mass) := V19_a.c 3 _ rfl
      have q19_a_4 : w19.cell? ⟨w.heap.size, 4, none⟩ = some (.int .i64 px) := V19_a.c 4 _ rfl
      have q19_a_5 : w19.cell? ⟨w.heap.size, 5, none⟩ = some (.int .i64 py) := V19_a.c 5 _ rfl
      have q19_a_6 : w19.cell? ⟨w.heap.size, 6, none⟩ = some (.int .i64 c1.mx) := V19_a.c 6 _ rfl
      have q19_a_7 : w19.cell? ⟨w.heap.size, 7, none⟩ = some (.int .i64 c1.my) := V19_a.c 7 _ rfl
      have f19_a := V19_a.2.2
      have L19_a := V19_a.lt
      have N19_a := Nat.ne_of_gt L19_a
      have M19_a := Nat.ne_of_lt L19_a
      have V19_b : M.Var w19 (w.heap.size + 1) #[.int .i64 c2.shape, .int .i64 c2.sx, .int .i64 c2.sy, .int .i64 c2.mass, .int .i64 c2.px, .int .i64 c2.py, .int .i64 c2.mx, .int .i64 c2.my] := M.var_rw (by (repeat (first | (with_reducible assumption) | (with_reducible apply M.var_set45) | (with_reducible apply M.var_setBd) | (with_reducible apply M.var_setV) | (with_reducible refine M.var_alloc' _ _ _ ?_; first | rfl | (focus (simp [go_sem]; done))) | (with_reducible refine M.Var.alloc ?_ _) | (with_reducible refine M.Var.drewN ?_ _) | (with_reducible refine M.Var.drew ?_) | (with_reducible refine M.Var.far ?_ _ _ ?hFar; case hFar => (first | omega | ((try simp [go_sem]) <;> omega))) | fail))) (by omega) hb
      have q19_b_0 : w19.cell? ⟨w.heap.size + 1, 0, none⟩ = some (.int .i64 c2.shape) := V19_b.c 0 _ rfl
      have q19_b_1 : w19.cell? ⟨w.heap.size + 1, 1, none⟩ = some (.int .i64 c2.sx) := V19_b.c 1 _ rfl
      have q19_b_2 : w19.cell? ⟨w.heap.size + 1, 2, none⟩ = some (.int .i64 c2.sy) := V19_b.c 2 _ rfl
      have q19_b_3 : w19.cell? ⟨w.heap.size + 1, 3, none⟩ = some (.int .i64 c2.mass) := V19_b.c 3 _ rfl
      have q19_b_4 : w19.cell? ⟨w.heap.size + 1, 4, none⟩ = some (.int .i64 c2.px) := V19_b.c 4 _ rfl
      have q19_b_5 : w19.cell? ⟨w.heap.size + 1, 5, none⟩ = some (.int .i64 c2.py) := V19_b.c 5 _ rfl
      have q19_b_6 : w19.cell? ⟨w.heap.size + 1, 6, none⟩ = some (.int .i64 c2.mx) := V19_b.c 6 _ rfl
      have q19_b_7 : w19.cell? ⟨w.heap.size + 1, 7, none⟩ = some (.int .i64 c2.my) := V19_b.c 7 _ rfl
      have f19_b := V19_b.2.2
      have L19_b := V19_b.lt
      have N19_b := Nat.ne_of_gt L19_b
      have M19_b := Nat.ne_of_lt L19_b
      have V19_h : M.Var w19 (w.heap.size + 1 + 1) #[.int .i64 h.nx, .int .i64 h.ny, .int .i64 h.d] := M.var_rw (by (repeat (first | (with_reducible assumption) | (with_reducible apply M.var_set45) | (with_reducible apply M.var_setBd) | (with_reducible apply M.var_setV) | (with_reducible refine M.var_alloc' _ _ _ ?_; first | rfl | (focus (simp [go_sem]; done))) | (with_reducible refine M.Var.alloc ?_ _) | (with_reducible refine M.Var.drewN ?_ _) | (with_reducible refine M.Var.drew ?_) | (with_reducible refine M.Var.far ?_ _ _ ?hFar; case hFar => (first | omega | ((try simp [go_sem]) <;> omega))) | fail))) (by omega) hb
      have q19_h_0 : w19.cell? ⟨w.heap.size + 1 + 1, 0, none⟩ = some (.int .i64 h.nx) := V19_h.c 0 _ rfl
      have q19_h_1 : w19.cell? ⟨w.heap.size + 1 + 1, 1, none⟩ = some (.int .i64 h.ny) := V19_h.c 1 _ rfl
      have q19_h_2 : w19.cell? ⟨w.heap.size + 1 + 1, 2, none⟩ = some (.int .i64 h.d) := V19_h.c 2 _ rfl
      have f19_h := V19_h.2.2
      have L19_h := V19_h.lt
      have N19_h := Nat.ne_of_gt L19_h
      have M19_h := Nat.ne_of_lt L19_h
      have V19_r : M.Var w19 (w.heap.size + 1 + 1 + 1) #[.int .i64 0, .int .i64 0, .int .i64 0, .int .i64 0, .int .i64 0, .int .i64 0, .int .i64 0, .int .i64 0] := M.var_rw (by (repeat (first | (with_reducible assumption) | (with_reducible apply M.var_set45) | (with_reducible apply M.var_setBd) | (with_reducible apply M.var_setV) | (with_reducible refine M.var_alloc' _ _ _ ?_; first | rfl | (focus (simp [go_sem]; done))) | (with_reducible refine M.Var.alloc ?_ _) | (with_reducible refine M.Var.drewN ?_ _) | (with_reducible refine M.Var.drew ?_) | (with_reducible refine M.Var.far ?_ _ _ ?hFar; case hFar => (first | omega | ((try simp [go_sem]) <;> omega))) | fail))) (by omega) hb
      have q19_r_0 : w19.cell? ⟨w.heap.size + 1 + 1 + 1, 0, none⟩ = some (.int .i64 0) := V19_r.c 0 _ rfl
      have q19_r_1 : w19.cell? ⟨w.heap.size + 1 + 1 + 1, 1, none⟩ = some (.int .i64 0) := V19_r.c 1 _ rfl
      have q19_r_2 : w19.cell? ⟨w.heap.size + 1 + 1 + 1, 2, none⟩ = some (.int .i64 0) := V19_r.c 2 _ rfl
      have q19_r_3 : w19.cell? ⟨w.heap.size + 1 + 1 + 1, 3, none⟩ = some (.int .i64 0) := V19_r.c 3 _ rfl
      have q19_r_4 : w19.cell? ⟨w.heap.size + 1 + 1 + 1, 4, none⟩ = some (.int .i64 0) := V19_r.c 4 _ rfl
      have q19_r_5 : w19.cell? ⟨w.heap.size + 1 + 1 + 1, 5, none⟩ = some (.int .i64 0) := V19_r.c 5 _ rfl
      have q19_r_6 : w19.cell? ⟨w.heap.size + 1 + 1 + 1, 6, none⟩ = some (.int .i64 0) := V19_r.c 6 _ rfl
      have q19_r_7 : w19.cell? ⟨w.heap.size + 1 + 1 + 1, 7, none⟩ = some (.int .i64 0) := V19_r.c 7 _ rfl
      have f19_r := V19_r.2.2
      have L19_r := V19_r.lt
      have N19_r := Nat.ne_of_gt L19_r
      have M19_r := Nat.ne_of_lt L19_r
      have V19_s : M.Var w19 (w.heap.size + 1 + 1 + 1 + 1) #[.int .i64 0, .int .i64 0, .int .i64 0, .int .i64 0, .int .i64 0, .int .i64 0, .int .i64 0, .int .i64 0] := M.var_rw (by (repeat (first | (with_reducible assumption) | (with_reducible apply M.var_set45) | (with_reducible apply M.var_setBd) | (with_reducible apply M.var_setV) | (with_reducible refine M.var_alloc' _ _ _ ?_; first | rfl | (focus (simp [go_sem]; done))) | (with_reducible refine M.Var.alloc ?_ _) | (with_reducible refine M.Var.drewN ?_ _) | (with_reducible refine M.Var.drew ?_) | (with_reducible refine M.Var.far ?_ _ _ ?hFar; case hFar => (first | omega | ((try simp [go_sem]) <;> omega))) | fail))) (by omega) hb
      have q19_s_0 : w19.cell? ⟨w.heap.size + 1 + 1 + 1 + 1, 0, none⟩ = some (.int .i64 0) := V19_s.c 0 _ rfl
      have q19_s_1 : w19.cell? ⟨w.heap.size + 1 + 1 + 1 + 1, 1, none⟩ = some (.int .i64 0) := V19_s.c 1 _ rfl
      have q19_s_2 : w19.cell? ⟨w.heap.size + 1 + 1 + 1 + 1, 2, none⟩ = some (.int .i64 0) := V19_s.c 2 _ rfl
      have q19_s_3 : w19.cell? ⟨w.heap.size + 1 + 1 + 1 + 1, 3, none⟩ = some (.int .i64 0) := V19_s.c 3 _ rfl
      have q19_s_4 : w19.cell? ⟨w.heap.size + 1 + 1 + 1 + 1, 4, none⟩ = some (.int .i64 0) := V19_s.c 4 _ rfl
      have q19_s_5 : w19.cell? ⟨w.heap.size + 1 + 1 + 1 + 1, 5, none⟩ = some (.int .i64 0) := V19_s.c 5 _ rfl
      have q19_s_6 : w19.cell? ⟨w.heap.size + 1 + 1 + 1 + 1, 6, none⟩ = some (.int .i64 0) := V19_s.c 6 _ rfl
      have q19_s_7 : w19.cell? ⟨w.heap.size + 1 + 1 + 1 + 1, 7, none⟩ = some (.int .i64 0) := V19_s.c 7 _ rfl
      have f19_s := V19_s.2.2
      have L19_s := V19_s.lt
      have N19_s := Nat.ne_of_gt L19_s
      have M19_s := Nat.ne_of_lt L19_s
      clear V18_a f18_a L18_a N18_a M18_a q18_a_0 q18_a_1 q18_a_2 q18_a_3 q18_a_4 q18_a_5 q18_a_6 q18_a_7 V18_b f18_b L18_b N18_b M18_b q18_b_0 q18_b_1 q18_b_2 q18_b_3 q18_b_4 q18_b_5 q18_b_6 q18_b_7 V18_h f18_h L18_h N18_h M18_h q18_h_0 q18_h_1 q18_h_2 V18_r f18_r L18_r N18_r M18_r q18_r_0 q18_r_1 q18_r_2 q18_r_3 q18_r_4 q18_r_5 q18_r_6 q18_r_7 V18_s f18_s L18_s N18_s M18_s q18_s_0 q18_s_1 q18_s_2 q18_s_3 q18_s_4 q18_s_5 q18_s_6 q18_s_7 PC18 c18_pb f18_pb L18_pb N18_pb M18_pb
      have HR19 := Lib.hid hr; clear hr
      have c19_pb := PC19.2.1; have f19_pb := PC19.2.2; have L19_pb := PC19.1; have N19_pb := Nat.ne_of_gt L19_pb; have M19_pb := Nat.ne_of_lt L19_pb
      have HG19 := Lib.hid G19; clear G19 hb
      (try go_simp)
      refine hK.out _ _ (Lib.hid ⟨(fun _ => by (repeat (first | (with_reducible assumption) | (with_reducible apply M.var_set45) | (with_reducible apply M.var_setBd) | (with_reducible apply M.var_setV) | (with_reducible refine M.var_alloc' _ _ _ ?_; first | rfl | (focus (simp [go_sem]; done))) | (with_reducible refine M.Var.alloc ?_ _) | (with_reducible refine M.Var.drewN ?_ _) | (with_reducible refine M.Var.drew ?_) | (with_reducible refine M.Var.far ?_ _ _ ?hFar; case hFar => (first | omega | ((try simp [go_sem]) <;> omega))) | fail))), (by (repeat (first | (with_reducible assumption) | (with_reducible apply M.var_set45) | (with_reducible apply M.var_setBd) | (with_reducible apply M.var_setV) | (with_reducible refine M.var_alloc' _ _ _ ?_; first | rfl | (focus (simp [go_sem]; done))) | (with_reducible refine M.Var.alloc ?_ _) | (with_reducible refine M.Var.drewN ?_ _) | (with_reducible refine M.Var.drew ?_) | (with_reducible refine M.Var.far ?_ _ _ ?hFar; case hFar => (first | omega | ((try simp [go_sem]) <;> omega))) | fail))), trivial⟩) ?_
      clear hK K hTb hTS; intro hTb hTS
      try simp only [Act.put, List.setIfInBounds_toArray, List.set_cons_zero, List.set_cons_succ]
      refine wpTill_one (i := 10) (by kernel_rfl) rfl hTb (fun K hK => ?_)
      go_simp
      (with_reducible refine (CD.out e19 _ _ _ HH.out.nx HH.out.ny iym _ (by (repeat (first | (with_reducible assumption) | (with_reducible refine M.pcell_alloc ?_ _) | (with_reducible refine M.pcell_drewN ?_ _) | (with_reducible refine M.pcell_drew ?_) | (with_reducible refine M.pcell_far ?_ _ _ ?hFar; case hFar => (first | omega | ((try simp [go_sem]) <;> omega))) | fail)))).mono ?_); rintro en w20 ⟨fx, fy, e20, rfl, ifx, ify, hr, hb⟩
      have G20 : M.RW pb e20 w w20 := M.rw_step (by have G := HG19.out; (repeat (with_reducible refine M.Below.drewN ?_ _)); go_grown) hb hpb
      have S20 : w.heap.size ≤ w20.heap.size := by have := G20.size; rwa [M.setCell_size] at this
      have PC20 : M.PCell w20 pb e20 := M.pcell_behind hb (e := e19) (by (repeat (first | (with_reducible assumption) | (with_reducible refine M.pcell_alloc ?_ _) | (with_reducible refine M.pcell_drewN ?_ _) | (with_reducible refine M.pcell_drew ?_) | (with_reducible refine M.pcell_far ?_ _ _ ?hFar; case hFar => (first | omega | ((try simp [go_sem]) <;> omega))) | fail)))
      have V20_a : M.Var w20 (w.heap.size) #[.int .i64 c1.shape, .int .i64 c1.sx, .int .i64 c1.sy, .int .i64 c1.mass, .int .i64 px, .int .i64 py, .int .i64 c1.mx, .int .i64 c1.my] := M.var_rw (by (repeat (first | (with_reducible assumption) | (with_reducible apply M.var_set45) | (with_reducible apply M.var_setBd) | (with_reducible apply M.var_setV) | (with_reducible refine M.var_alloc' _ _ _ ?_; first | rfl | (focus (simp [go_sem]; done))) | (with_reducible refine M.Var.alloc ?_ _) | (with_reducible refine M.Var.drewN ?_ _) | (with_reducible refine M.Var.drew ?_) | (with_reducible refine M.Var.far ?_ _ _ ?hFar; case hFar => (first | omega | ((try simp [go_sem]) <;> omega))) | fail))) (by omega) hb
      have q20_a_0 : w20.cell? ⟨w.heap.size, 0, none⟩ = some (.int .i64 c1.shape) := V20_a.c 0 _ rfl
      have q20_a_1 : w20.cell? ⟨w.heap.size, 1, none⟩ = some (.int .i64 c1.sx) := V20_a.c 1 _ rfl
      have q20_a_2 : w20.cell? ⟨w.heap.size, 2, none⟩ = some (.int .i64 c1.sy) := V20_a.c 2 _ rfl
      have q20_a_3 : w20.cell? ⟨w.heap.size, 3, none⟩ = some (.int .i64 c1.mass) := V20_a.c 3 _ rfl
      have q20_a_4 : w20.cell? ⟨w.heap.size, 4, none⟩ = some (.int .i64 px) := V20_a.c 4 _ rfl
      have q20_a_5 : w20.cell? ⟨w.heap.size, 5, none⟩ = some (.int .i64 py) := V20_a.c 5 _ rfl
      have q20_a_6 : w20.cell? ⟨w.heap.size, 6, none⟩ = some (.int .i64 c1.mx) := V20_a.c 6 _ rfl
      have q20_a_7 : w20.cell? ⟨w.heap.size, 7, none⟩ = some (.int .i64 c1.my) := V20_a.c 7 _ rfl
      have f20_a := V20_a.2.2
      have L20_a := V20_a.lt
      have N20_a := Nat.ne_of_gt L20_a
      have M20_a := Nat.ne_of_lt L20_a
      have V20_b : M.Var w20 (w.heap.size + 1) #[.int .i64 c2.shape, .int .i64 c2.sx, .int .i64 c2.sy, .int .i64 c2.mass, .int .i64 c2.px, .int .i64 c2.py, .int .i64 c2.mx, .int .i64 c2.my] := M.var_rw (by (repeat (first | (with_reducible assumption) | (with_reducible apply M.var_set45) | (with_reducible apply M.var_setBd) | (with_reducible apply M.var_setV) | (with_reducible refine M.var_alloc' _ _ _ ?_; first | rfl | (focus (simp [go_sem]; done))) | (with_reducible refine M.Var.alloc ?_ _) | (with_reducible refine M.Var.drewN ?_ _) | (with_reducible refine M.Var.drew ?_) | (with_reducible refine M.Var.far ?_ _ _ ?hFar; case hFar => (first | omega | ((try simp [go_sem]) <;> omega))) | fail))) (by omega) hb
      have q20_b_0 : w20.cell? ⟨w.heap.size + 1, 0, none⟩ = some (.int .i64 c2.shape) := V20_b.c 0 _ rfl
      have q20_b_1 : w20.cell? ⟨w.heap.size + 1, 1, none⟩ = some (.int .i64 c2.sx) := V20_b.c 1 _ rfl
      have q20_b_2 : w20.cell? ⟨w.heap.size + 1, 2, none⟩ = some (.int .i64 c2.sy) := V20_b.c 2 _ rfl
      have q20_b_3 : w20.cell? ⟨w.heap.size + 1, 3, none⟩ = some (.int .i64 c2.mass) := V20_b.c 3 _ rfl
      have q20_b_4 : w20.cell? ⟨w.heap.size + 1, 4, none⟩ = some (.int .i64 c2.px) := V20_b.c 4 _ rfl
      have q20_b_5 : w20.cell? ⟨w.heap.size + 1, 5, none⟩ = some (.int .i64 c2.py) := V20_b.c 5 _ rfl
      have q20_b_6 : w20.cell? ⟨w.heap.size + 1, 6, none⟩ = some (.int .i64 c2.mx) := V20_b.c 6 _ rfl
      have q20_b_7 : w20.cell? ⟨w.heap.size + 1, 7, none⟩ = some (.int .i64 c2.my) := V20_b.c 7 _ rfl
      have f20_b := V20_b.2.2
      have L20_b := V20_b.lt
      have N20_b := Nat.ne_of_gt L20_b
      have M20_b := Nat.ne_of_lt L20_b
      have V20_h : M.Var w20 (w.heap.size + 1 + 1) #[.int .i64 h.nx, .int .i64 h.ny, .int .i64 h.d] := M.var_rw (by (repeat (first | (with_reducible assumption) | (with_reducible apply M.var_set45) | (with_reducible apply M.var_setBd) | (with_reducible apply M.var_setV) | (with_reducible refine M.var_alloc' _ _ _ ?_; first | rfl | (focus (simp [go_sem]; done))) | (with_reducible refine M.Var.alloc ?_ _) | (with_reducible refine M.Var.drewN ?_ _) | (with_reducible refine M.Var.drew ?_) | (with_reducible refine M.Var.far ?_ _ _ ?hFar; case hFar => (first | omega | ((try simp [go_sem]) <;> omega))) | fail))) (by omega) hb
      have q20_h_0 : w20.cell? ⟨w.heap.size + 1 + 1, 0, none⟩ = some (.int .i64 h.nx) := V20_h.c 0 _ rfl
      have q20_h_1 : w20.cell? ⟨w.heap.size + 1 + 1, 1, none⟩ = some (.int .i64 h.ny) := V20_h.c 1 _ rfl
      have q20_h_2 : w20.cell? ⟨w.heap.size + 1 + 1, 2, none⟩ = some (.int .i64 h.d) := V20_h.c 2 _ rfl
      have f20_h := V20_h.2.2
      have L20_h := V20_h.lt
      have N20_h := Nat.ne_of_gt L20_h
      have M20_h := Nat.ne_of_lt L20_h
      have V20_r : M.Var w20 (w.heap.size + 1 + 1 + 1) #[.int .i64 0, .int .i64 0, .int .i64 0, .int .i64 0, .int .i64 0, .int .i64 0, .int .i64 0, .int .i64 0] := M.var_rw (by (repeat (first | (with_reducible assumption) | (with_reducible apply M.var_set45) | (with_reducible apply M.var_setBd) | (with_reducible apply M.var_setV) | (with_reducible refine M.var_alloc' _ _ _ ?_; first | rfl | (focus (simp [go_sem]; done))) | (with_reducible refine M.Var.alloc ?_ _) | (with_reducible refine M.Var.drewN ?_ _) | (with_reducible refine M.Var.drew ?_) | (with_reducible refine M.Var.far ?_ _ _ ?hFar; case hFar => (first | omega | ((try simp [go_sem]) <;> omega))) | fail))) (by omega) hb
      have q20_r_0 : w20.cell? ⟨w.heap.size + 1 + 1 + 1, 0, none⟩ = some (.int .i64 0) := V20_r.c 0 _ rfl
      have q20_r_1 : w20.cell? ⟨w.heap.size + 1 + 1 + 1, 1, none⟩ = some (.int .i64 0) := V20_r.c 1 _ rfl
      have q20_r_2 : w20.cell? ⟨w.heap.size + 1 + 1 + 1, 2, none⟩ = some (.int .i64 0) := V20_r.c 2 _ rfl
      have q20_r_3 : w20.cell? ⟨w.heap.size + 1 + 1 + 1, 3, none⟩ = some (.int .i64 0) := V20_r.c 3 _ rfl
      have q20_r_4 : w20.cell? ⟨w.heap.size + 1 + 1 + 1, 4, none⟩ = some (.int .i64 0) := V20_r.c 4 _ rfl
      have q20_r_5 : w20.cell? ⟨w.heap.size + 1 + 1 + 1, 5, none⟩ = some (.int .i64 0) := V20_r.c 5 _ rfl
      have q20_r_6 : w20.cell? ⟨w.heap.size + 1 + 1 + 1, 6, none⟩ = some (.int .i64 0) := V20_r.c 6 _ rfl
      have q20_r_7 : w20.cell? ⟨w.heap.size + 1 + 1 + 1, 7, none⟩ = some (.int .i64 0) := V20_r.c 7 _ rfl
      have f20_r := V20_r.2.2
      have L20_r := V20_r.lt
      have N20_r := Nat.ne_of_gt L20_r
      have M20_r := Nat.ne_of_lt L20_r
      have V20_s : M.Var w20 (w.heap.size + 1 + 1 + 1 + 1) #[.int .i64 0, .int .i64 0, .int .i64 0, .int .i64 0, .int .i64 0, .int .i64 0, .int .i64 0, .int .i64 0] := M.var_rw (by (repeat (first | (with_reducible assumption) | (with_reducible apply M.var_set45) | (with_reducible apply M.var_setBd) | (with_reducible apply M.var_setV) | (with_reducible refine M.var_alloc' _ _ _ ?_; first | rfl | (focus (simp [go_sem]; done))) | (with_reducible refine M.Var.alloc ?_ _) | (with_reducible refine M.Var.drewN ?_ _) | (with_reducible refine M.Var.drew ?_) | (with_reducible refine M.Var.far ?_ _ _ ?hFar; case hFar => (first | omega | ((try simp [go_sem]) <;> omega))) | fail))) (by omega) hb
      have q20_s_0 : w20.cell? ⟨w.heap.size + 1 + 1 + 1 + 1, 0, none⟩ = some (.int .i64 0) := V20_s.c 0 _ rfl
      have q20_s_1 : w20.cell? ⟨w.heap.size + 1 + 1 + 1 + 1, 1, none⟩ = some (.int .i64 0) := V20_s.c 1 _ rfl
      have q20_s_2 : w20.cell? ⟨w.heap.size + 1 + 1 + 1 + 1, 2, none⟩ = some (.int .i64 0) := V20_s.c 2 _ rfl
      have q20_s_3 : w20.cell? ⟨w.heap.size + 1 + 1 + 1 + 1, 3, none⟩ = some (.int .i64 0) := V20_s.c 3 _ rfl
      have q20_s_4 : w20.cell? ⟨w.heap.size + 1 + 1 + 1 + 1, 4, none⟩ = some (.int .i64 0) := V20_s.c 4 _ rfl
      have q20_s_5 : w20.cell? ⟨w.heap.size + 1 + 1 + 1 + 1, 5, none⟩ = some (.int .i64 0) := V20_s.c 5 _ rfl
      have q20_s_6 : w20.cell? ⟨w.heap.size + 1 + 1 + 1 + 1, 6, none⟩ = some (.int .i64 0) := V20_s.c 6 _ rfl
      have q20_s_7 : w20.cell? ⟨w.heap.size + 1 + 1 + 1 + 1, 7, none⟩ = some (.int .i64 0) := V20_s.c 7 _ rfl
      have f20_s := V20_s.2.2
      have L20_s := V20_s.lt
      have N20_s := Nat.ne_of_gt L20_s
      have M20_s := Nat.ne_of_lt L20_s
      clear V19_a f19_a L19_a N19_a M19_a q19_a_0 q19_a_1 q19_a_2 q19_a_3 q19_a_4 q19_a_5 q19_a_6 q19_a_7 V19_b f19_b L19_b N19_b M19_b q19_b_0 q19_b_1 q19_b_2 q19_b_3 q19_b_4 q19_b_5 q19_b_6 q19_b_7 V19_h f19_h L19_h N19_h M19_h q19_h_0 q19_h_1 q19_h_2 V19_r f19_r L19_r N19_r M19_r q19_r_0 q19_r_1 q19_r_2 q19_r_3 q19_r_4 q19_r_5 q19_r_6 q19_r_7 V19_s f19_s L19_s N19_s M19_s q19_s_0 q19_s_1 q19_s_2 q19_s_3 q19_s_4 q19_s_5 q19_s_6 q19_s_7 PC19 c19_pb f19_pb L19_pb N19_pb M19_pb
      have HR20 := Lib.hid hr; clear hr
      have c20_pb := PC20.2.1; have f20_pb := PC20.2.2; have L20_pb := PC20.1; have N20_pb := Nat.ne_of_gt L20_pb; have M20_pb := Nat.ne_of_lt L20_pb
      have HG20 := Lib.hid G20; clear G20 hb
      (try go_simp)
      refine hK.out _ _ (Lib.hid ⟨(fun _ => by (repeat (first | (with_reducible assumption) | (with_reducible apply M.var_set45) | (with_reducible apply M.var_setBd) | (with_reducible apply M.var_setV) | (with_reducible refine M.var_alloc' _ _ _ ?_; first | rfl | (focus (simp [go_sem]; done))) | (with_reducible refine M.Var.alloc ?_ _) | (with_reducible refine M.Var.drewN ?_ _) | (with_reducible refine M.Var.drew ?_) | (with_reducible refine M.Var.far ?_ _ _ ?hFar; case hFar => (first | omega | ((try simp [go_sem]) <;> omega))) | fail))), (by (repeat (first | (with_reducible assumption) | (with_reducible apply M.var_set45) | (with_reducible apply M.var_setBd) | (with_reducible apply M.var_setV) | (with_reducible refine M.var_alloc' _ _ _ ?_; first | rfl | (focus (simp [go_sem]; done))) | (with_reducible refine M.Var.alloc ?_ _) | (with_reducible refine M.Var.drewN ?_ _) | (with_reducible refine M.Var.drew ?_) | (with_reducible refine M.Var.far ?_ _ _ ?hFar; case hFar => (first | omega | ((try simp [go_sem]) <;> omega))) | fail))), trivial⟩) ?_
      clear hK K hTb hTS; intro hTb hTS
      try simp only [Act.put, List.setIfInBounds_toArray, List.set_cons_zero, List.set_cons_succ]
      refine wpTill_one (i := 11) (by kernel_rfl) rfl hTb (fun K hK => ?_)
      go_simp
      (with_reducible refine (CQ.out e20 _ _ _ _ i2.px i2.py ifx ify _ (by (repeat (first | (with_reducible assumption) | (with_reducible refine M.pcell_alloc ?_ _) | (with_reducible refine M.pcell_drewN ?_ _) | (with_reducible refine M.pcell_drew ?_) | (with_reducible refine M.pcell_far ?_ _ _ ?hFar; case hFar => (first | omega | ((try simp [go_sem]) <;> omega))) | fail)))).mono ?_); rintro en w21 ⟨qx2, qy2, e21, rfl, iqx2, iqy2, hr, hb⟩
      have G21 : M.RW pb e21 w w21 := M.rw_step (by have G := HG20.out; (repeat (with_reducible refine M.Below.drewN ?_ _)); go_grown) hb hpb
      have S21 : w.heap.size ≤ w21.heap.size := by have := G21.size; rwa [M.setCell_size] at this
      have PC21 : M.PCell w21 pb e21 := M.pcell_behind hb (e := e20) (by (repeat (first | (with_reducible assumption) | (with_reducible refine M.pcell_alloc ?_ _) | (with_reducible refine M.pcell_drewN ?_ _) | (with_reducible refine M.pcell_drew ?_) | (with_reducible refine M.pcell_far ?_ _ _ ?hFar; case hFar => (first | omega | ((try simp [go_sem]) <;> omega))) | fail)))
      have V21_a : M.Var w21 (w.heap.size) #[.int .i64 c1.shape, .int .i64 c1.sx, .int .i64 c1.sy, .int .i64 c1.mass, .int .i64 px, .int .i64 py, .int .i64 c1.mx, .int .i64 c1.my] := M.var_rw (by (repeat (first | (with_reducible assumption) | (with_reducible apply M.var_set45) | (with_reducible apply M.var_setBd) | (with_reducible apply M.var_setV) | (with_reducible refine M.var_alloc' _ _ _ ?_; first | rfl | (focus (simp [go_sem]; done))) | (with_reducible refine M.Var.alloc ?_ _) | (with_reducible refine M.Var.drewN ?_ _) | (with_reducible refine M.Var.drew ?_) | (with_reducible refine M.Var.far ?_ _ _ ?hFar; case hFar => (first | omega | ((try simp [go_sem]) <;> omega))) | fail))) (by omega) hb
      have q21_a_0 : w21.cell? ⟨w.heap.size, 0, none⟩ = some (.int .i64 c1.shape) := V21_a.c 0 _ rfl
      have q21_a_1 : w21.cell? ⟨w.heap.size, 1, none⟩ = some (.int .i64 c1.sx) := V21_a.c 1 _ rfl
      have q21_a_2 : w21.cell? ⟨w.heap.size, 2, none⟩ = some (.int .i64 c1.sy) := V21_a.c 2 _ rfl
      have q21_a_3 : w21.cell? ⟨w.heap.size, 3, none⟩ = some (.int .i64 c1.mass) := V21_a.c 3 _ rfl
      have q21_a_4 : w21.cell? ⟨w.heap.size, 4, none⟩ = some (.int .i64 px) := V21_a.c 4 _ rfl
      have q21_a_5 : w21.cell? ⟨w.heap.size, 5, none⟩ = some (.int .i64 py) := V21_a.c 5 _ rfl
      have q21_a_6 : w21.cell? ⟨w.heap.size, 6, none⟩ = some (.int .i64 c1.mx) := V21_a.c 6 _ rfl
      have q21_a_7 : w21.cell? ⟨w.heap.size, 7, none⟩ = some (.int .i64 c1.my) := V21_a.c 7 _ rfl
      have f21_a := V21_a.2.2
      have L21_a := V21_a.lt
      have N21_a := Nat.ne_of_gt L21_a
      have M21_a := Nat.ne_of_lt L21_a
      have V21_b : M.Var w21 (w.heap.size + 1) #[.int .i64 c2.shape, .int .i64 c2.sx, .int .i64 c2.sy, .int .i64 c2.mass, .int .i64 c2.px, .int .i64 c2.py, .int .i64 c2.mx, .int .i64 c2.my] := M.var_rw (by (repeat (first | (with_reducible assumption) | (with_reducible apply M.var_set45) | (with_reducible apply M.var_setBd) | (with_reducible apply M.var_setV) | (with_reducible refine M.var_alloc' _ _ _ ?_; first | rfl | (focus (simp [go_sem]; done))) | (with_reducible refine M.Var.alloc ?_ _) | (with_reducible refine M.Var.drewN ?_ _) | (with_reducible refine M.Var.drew ?_) | (with_reducible refine M.Var.far ?_ _ _ ?hFar; case hFar => (first | omega | ((try simp [go_sem]) <;> omega))) | fail))) (by omega) hb
      have q21_b_0 : w21.cell? ⟨w.heap.size + 1, 0, none⟩ = some (.int .i64 c2.shape) := V21_b.c 0 _ rfl
      have q21_b_1 : w21.cell? ⟨w.heap.size + 1, 1, none⟩ = some (.int .i64 c2.sx) := V21_b.c 1 _ rfl
      have q21_b_2 : w21.cell? ⟨w.heap.size + 1, 2, none⟩ = some (.int .i64 c2.sy) := V21_b.c 2 _ rfl
      have q21_b_3 : w21.cell? ⟨w.heap.size + 1, 3, none⟩ = some (.int .i64 c2.mass) := V21_b.c 3 _ rfl
      have q21_b_4 : w21.cell? ⟨w.heap.size + 1, 4, none⟩ = some (.int .i64 c2.px) := V21_b.c 4 _ rfl
      have q21_b_5 : w21.cell? ⟨w.heap.size + 1, 5, none⟩ = some (.int .i64 c2.py) := V21_b.c 5 _ rfl
      have q21_b_6 : w21.cell? ⟨w.heap.size + 1, 6, none⟩ = some (.int .i64 c2.mx) := V21_b.c 6 _ rfl
      have q21_b_7 : w21.cell? ⟨w.heap.size + 1, 7, none⟩ = some (.int .i64 c2.my) := V21_b.c 7 _ rfl
      have f21_b := V21_b.2.2
      have L21_b := V21_b.lt
      have N21_b := Nat.ne_of_gt L21_b
      have M21_b := Nat.ne_of_lt L21_b
      have V21_h : M.Var w21 (w.heap.size + 1 + 1) #[.int .i64 h.nx, .int .i64 h.ny, .int .i64 h.d] := M.var_rw (by (repeat (first | (with_reducible assumption) | (with_reducible apply M.var_set45) | (with_reducible apply M.var_setBd) | (with_reducible apply M.var_setV) | (with_reducible refine M.var_alloc' _ _ _ ?_; first | rfl | (focus (simp [go_sem]; done))) | (with_reducible refine M.Var.alloc ?_ _) | (with_reducible refine M.Var.drewN ?_ _) | (with_reducible refine M.Var.drew ?_) | (with_reducible refine M.Var.far ?_ _ _ ?hFar; case hFar => (first | omega | ((try simp [go_sem]) <;> omega))) | fail))) (by omega) hb
      have q21_h_0 : w21.cell? ⟨w.heap.size + 1 + 1, 0, none⟩ = some (.int .i64 h.nx) := V21_h.c 0 _ rfl
      have q21_h_1 : w21.cell? ⟨w.heap.size + 1 + 1, 1, none⟩ = some (.int .i64 h.ny) := V21_h.c 1 _ rfl
      have q21_h_2 : w21.cell? ⟨w.heap.size + 1 + 1, 2, none⟩ = some (.int .i64 h.d) := V21_h.c 2 _ rfl
      have f21_h := V21_h.2.2
      have L21_h := V21_h.lt
      have N21_h := Nat.ne_of_gt L21_h
      have M21_h := Nat.ne_of_lt L21_h
      have V21_r : M.Var w21 (w.heap.size + 1 + 1 + 1) #[.int .i64 0, .int .i64 0, .int .i64 0, .int .i64 0, .int .i64 0, .int .i64 0, .int .i64 0, .int .i64 0] := M.var_rw (by (repeat (first | (with_reducible assumption) | (with_reducible apply M.var_set45) | (with_reducible apply M.var_setBd) | (with_reducible apply M.var_setV) | (with_reducible refine M.var_alloc' _ _ _ ?_; first | rfl | (focus (simp [go_sem]; done))) | (with_reducible refine M.Var.alloc ?_ _) | (with_reducible refine M.Var.drewN ?_ _) | (with_reducible refine M.Var.drew ?_) | (with_reducible refine M.Var.far ?_ _ _ ?hFar; case hFar => (first | omega | ((try simp [go_sem]) <;> omega))) | fail))) (by omega) hb
      have q21_r_0 : w21.cell? ⟨w.heap.size + 1 + 1 + 1, 0, none⟩ = some (.int .i64 0) := V21_r.c 0 _ rfl
      have q21_r_1 : w21.cell? ⟨w.heap.size + 1 + 1 + 1, 1, none⟩ = some (.int .i64 0) := V21_r.c 1 _ rfl
      have q21_r_2 : w21.cell? ⟨w.heap.size + 1 + 1 + 1, 2, none⟩ = some (.int .i64 0) := V21_r.c 2 _ rfl
      have q21_r_3 : w21.cell? ⟨w.heap.size + 1 + 1 + 1, 3, none⟩ = some (.int .i64 0) := V21_r.c 3 _ rfl
      have q21_r_4 : w21.cell? ⟨w.heap.size + 1 + 1 + 1, 4, none⟩ = some (.int .i64 0) := V21_r.c 4 _ rfl
      have q21_r_5 : w21.cell? ⟨w.heap.size + 1 + 1 + 1, 5, none⟩ = some (.int .i64 0) := V21_r.c 5 _ rfl
      have q21_r_6 : w21.cell? ⟨w.heap.size + 1 + 1 + 1, 6, none⟩ = some (.int .i64 0) := V21_r.c 6 _ rfl
      have q21_r_7 : w21.cell? ⟨w.heap.size + 1 + 1 + 1, 7, none⟩ = some (.int .i64 0) := V21_r.c 7 _ rfl
      have f21_r := V21_r.2.2
      have L21_r := V21_r.lt
      have N21_r := Nat.ne_of_gt L21_r
      have M21_r := Nat.ne_of_lt L21_r
      have V21_s : M.Var w21 (w.heap.size + 1 + 1 + 1 + 1) #[.int .i64 0, .int .i64 0, .int .i64 0, .int .i64 0, .int .i64 0, .int .i64 0, .int .i64 0, .int .i64 0] := M.var_rw (by (repeat (first | (with_reducible assumption) | (with_reducible apply M.var_set45) | (with_reducible apply M.var_setBd) | (with_reducible apply M.var_setV) | (with_reducible refine M.var_alloc' _ _ _ ?_; first | rfl | (focus (simp [go_sem]; done))) | (with_reducible refine M.Var.alloc ?_ _) | (with_reducible refine M.Var.drewN ?_ _) | (with_reducible refine M.Var.drew ?_) | (with_reducible refine M.Var.far ?_ _ _ ?hFar; case hFar => (first | omega | ((try simp [go_sem]) <;> omega))) | fail))) (by omega) hb
      have q21_s_0 : w21.cell? ⟨w.heap.size + 1 + 1 + 1 + 1, 0, none⟩ = some (.int .i64 0) := V21_s.c 0 _ rfl
      have q21_s_1 : w21.cell? ⟨w.heap.size + 1 + 1 + 1 + 1, 1, none⟩ = some (.int .i64 0) := V21_s.c 1 _ rfl
      have q21_s_2 : w21.cell? ⟨w.heap.size + 1 + 1 + 1 + 1, 2, none⟩ = some (.int .i64 0) := V21_s.c 2 _ rfl
      have q21_s_3 : w21.cell? ⟨w.heap.size + 1 + 1 + 1 + 1, 3, none⟩ = some (.int .i64 0) := V21_s.c 3 _ rfl
      have q21_s_4 : w21.cell? ⟨w.heap.size + 1 + 1 + 1 + 1, 4, none⟩ = some (.int .i64 0) := V21_s.c 4 _ rfl
      have q21_s_5 : w21.cell? ⟨w.heap.size + 1 + 1 + 1 + 1, 5, none⟩ = some (.int .i64 0) := V21_s.c 5 _ rfl
      have q21_s_6 : w21.cell? ⟨w.heap.size + 1 + 1 + 1 + 1, 6, none⟩ = some (.int .i64 0) := V21_s.c 6 _ rfl
      have q21_s_7 : w21.cell? ⟨w.heap.size + 1 + 1 + 1 + 1, 7, none⟩ = some (.int .i64 0) := V21_s.c 7 _ rfl
      have f21_s := V21_s.2.2
      have L21_s := V21_s.lt
      have N21_s := Nat.ne_of_gt L21_s
      have M21_s := Nat.ne_of_lt L21_s
      clear V20_a f20_a L20_a N20_a M20_a q20_a_0 q20_a_1 q20_a_2 q20_a_3 q20_a_4 q20_a_5 q20_a_6 q20_a_7 V20_b f20_b L20_b N20_b M20_b q20_b_0 q20_b_1 q20_b_2 q20_b_3 q20_b_4 q20_b_5 q20_b_6 q20_b_7 V20_h f20_h L20_h N20_h M20_h q20_h_0 q20_h_1 q20_h_2 V20_r f20_r L20_r N20_r M20_r q20_r_0 q20_r_1 q20_r_2 q20_r_3 q20_r_4 q20_r_5 q20_r_6 q20_r_7 V20_s f20_s L20_s N20_s M20_s q20_s_0 q20_s_1 q20_s_2 q20_s_3 q20_s_4 q20_s_5 q20_s_6 q20_s_7 PC20 c20_pb f20_pb L20_pb N20_pb M20_pb
      have HR21 := Lib.hid hr; clear hr
      have c21_pb := PC21.2.1; have f21_pb := PC21.2.2; have L21_pb := PC21.1; have N21_pb := Nat.ne_of_gt L21_pb; have M21_pb := Nat.ne_of_lt L21_pb
      have HG21 := Lib.hid G21; clear G21 hb
      (try go_simp)
      refine hK.out _ _ (Lib.hid ⟨(fun _ => by (repeat (first | (with_reducible assumption) | (with_reducible apply M.var_set45) | (with_reducible apply M.var_setBd) | (with_reducible apply M.var_setV) | (with_reducible refine M.var_alloc' _ _ _ ?_; first | rfl | (focus (simp [go_sem]; done))) | (with_reducible refine M.Var.alloc ?_ _) | (with_reducible refine M.Var.drewN ?_ _) | (with_reducible refine M.Var.drew ?_) | (with_reducible refine M.Var.far ?_ _ _ ?hFar; case hFar => (first | omega | ((try simp [go_sem]) <;> omega))) | fail))), (by (repeat (first | (with_reducible assumption) | (with_reducible apply M.var_set45) | (with_reducible apply M.var_setBd) | (with_reducible apply M.var_setV) | (with_reducible refine M.var_alloc' _ _ _ ?_; first | rfl | (focus (simp [go_sem]; done))) | (with_reducible refine M.Var.alloc ?_ _) | (with_reducible refine M.Var.drewN ?_ _) | (with_reducible refine M.Var.drew ?_) | (with_reducible refine M.Var.far ?_ _ _ ?hFar; case hFar => (first | omega | ((try simp [go_sem]) <;> omega))) | fail))), trivial⟩) ?_
      clear hK K hTb hTS; intro hTb hTS
      try simp only [Act.put, List.setIfInBounds_toArray, List.set_cons_zero, List.set_cons_succ]
      refine wpTill_take (i := 12) (v := ?_) rfl (by kernel_rfl) (by kernel_rfl) (by kernel_rfl) hTb (fun _ _ _ h => h) (fun _ _ => by simp only [getD_set_ne false (show 12 ≠ 13 by decide)]) (Or.inl ⟨by rfl, ?_⟩) hTS ?_
      rotate_left
      · intro wT hT; clear hT
        go_simp
        all_goals with_reducible rfl
      clear hTb hTS; intro hTb hTS
      try simp only [Act.put, List.setIfInBounds_toArray, List.set_cons_zero, List.set_cons_succ]
      refine wpTill_one (i := 13) (by kernel_rfl) rfl hTb (fun K hK => ?_)
      go_simp
      (try go_simp)
      refine hK.out _ _ (Lib.hid ⟨till_gone (by kernel_rfl), (by (repeat (first | (with_reducible assumption) | (with_reducible apply M.var_set45) | (with_reducible apply M.var_setBd) | (with_reducible apply M.var_setV) | (with_reducible refine M.var_alloc' _ _ _ ?_; first | rfl | (focus (simp [go_sem]; done))) | (with_reducible refine M.Var.alloc ?_ _) | (with_reducible refine M.Var.drewN ?_ _) | (with_reducible refine M.Var.drew ?_) | (with_reducible refine M.Var.far ?_ _ _ ?hFar; case hFar => (first | omega | ((try simp [go_sem]) <;> omega))) | fail))), trivial⟩) ?_
      clear hK K hTb hTS; intro hTb hTS
      try simp only [Act.put, List.setIfInBounds_toArray, List.set_cons_zero, List.set_cons_succ]
      refine wpTill_done (by kernel_rfl) ?_ _; clear hTb hTS
      go_wp2_with (with_reducible refine M.stopPost ?_)
      go_region_held2 (fun w' => w'.cell? ⟨w.heap.size, 0, none⟩ = some (.int .i64 c1.shape) ∧ w'.cell? ⟨w.heap.size, 1, none⟩ = some (.int .i64 c1.sx) ∧ w'.cell? ⟨w.heap.size, 2, none⟩ = some (.int .i64 c1.sy) ∧ w'.cell? ⟨w.heap.size, 3, none⟩ = some (.int .i64 c1.mass) ∧ w'.cell? ⟨w.heap.size, 4, none⟩ = some (.int .i64 px) ∧ w'.cell? ⟨w.heap.size, 5, none⟩ = some (.int .i64 py) ∧ w'.cell? ⟨w.heap.size, 6, none⟩ = some (.int .i64 c1.mx) ∧ w'.cell? ⟨w.heap.size, 7, none⟩ = some (.int .i64 c1.my) ∧ w'.cell? ⟨w.heap.size + 1, 0, none⟩ = some (.int .i64 c2.shape) ∧ w'.cell? ⟨w.heap.size + 1, 1, none⟩ = some (.int .i64 c2.sx) ∧ w'.cell? ⟨w.heap.size + 1, 2, none⟩ = some (.int .i64 c2.sy) ∧ w'.cell? ⟨w.heap.size + 1, 3, none⟩ = some (.int .i64 c2.mass) ∧ w'.cell? ⟨w.heap.size + 1, 4, none⟩ = some (.int .i64 qx2) ∧ w'.cell? ⟨w.heap.size + 1, 5, none⟩ = some (.int .i64 qy2) ∧ w'.cell? ⟨w.heap.size + 1, 6, none⟩ = some (.int .i64 c2.mx) ∧ w'.cell? ⟨w.heap.size + 1, 7, none⟩ = some (.int .i64 c2.my)) (first | (go_keep; done) | (simp [*, go_sem, World.cell?_alloc_some, World.cell?_setCell_far]; done))
        (fail)
      all_goals go_wp2_with (with_reducible refine M.stopPost ?_)
      (try refine M.Stop.mk ?_)
      refine bodyPost_ret (v := .tuple #[.agg #[.int .i64 c1.shape, .int .i64 c1.sx, .int .i64 c1.sy, .int .i64 c1.mass, .int .i64 px, .int .i64 py, .int .i64 c1.mx, .int .i64 c1.my], .agg #[.int .i64 c2.shape, .int .i64 c2.sx, .int .i64 c2.sy, .int .i64 c2.mass, .int .i64 qx2, .int .i64 qy2, .int .i64 c2.mx, .int .i64 c2.my]]) (by first | (simp [results, Try.results34, go_sem, q21_r_0, q21_r_1, q21_r_2, q21_r_3, q21_r_4, q21_r_5, q21_r_6, q21_r_7, f21_r, L21_r, N21_r, M21_r, q21_s_0, q21_s_1, q21_s_2, q21_s_3, q21_s_4, q21_s_5, q21_s_6, q21_s_7, f21_s, L21_s, N21_s, M21_s]; done) | (simp [results, Try.results34, go_sem, *]; done)) rfl ?_
      (try unfold M.RelHb); (try unfold M.RelBB); (try unfold M.RelI); (try unfold M.RelV); exact ⟨⟨c1.shape, c1.sx, c1.sy, c1.mass, px, py, c1.mx, c1.my⟩, ⟨c2.shape, c2.sx, c2.sy, c2.mass, qx2, qy2, c2.mx, c2.my⟩, e21, rfl, ⟨i1.shape, i1.sx, i1.sy, i1.mass, ipx, ipy, i1.mx, i1.my⟩, ⟨i2.shape, i2.sx, i2.sy, i2.mass, iqx2, iqy2, i2.mx, i2.my⟩, (rel_bind HK.out (by rw [if_neg h3]; exact rel_bind HV.out (rel_bind hx.out (rel_parts hm.out (rel_bind HD.out (rel_bind HR16.out (rel_bind HR17.out (rel_bind HR18.out (rel_bind HR19.out (rel_bind HR20.out (rel_bind HR21.out (rel_ok _ _)))))))))))), by have G := HG21.out; (repeat (with_reducible refine M.Below.drewN ?_ _)); go_grown⟩
end Go.Proofs.Ytcaibieaobhheaa
