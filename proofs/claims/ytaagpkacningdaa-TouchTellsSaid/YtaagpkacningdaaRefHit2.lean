/- The contact of two bodies, as the reference reckons it. -/
import Derived.Test.YtaagpkacningdaaRefHit1
namespace Go.Proofs.Ytaagpkacningdaa
open Go.RowKit M
set_option maxRecDepth 100000
set_option maxHeartbeats 4000000
set_option linter.unusedVariables false
set_option linter.unusedSimpArgs false
attribute [local go_sem ↓] Go.wp_at_zero Go.wp_at_succ
namespace M
theorem rel_zero {α : Type} {e e' : Int} {P : X α} {v : α} (h : Rel e P v e') (h0 : e' = 0) : e = 0 ∧ P = .ok v := by
  rcases h with ⟨h, rfl⟩ | ⟨h, _, hp⟩ | ⟨_, h, _⟩
  · exact absurd h0 h
  · exact ⟨h, hp⟩
  · exact absurd h0 h
theorem unit_zero {d u : V} (h : unitX d = .ok (u, 0)) : u = (0, 0) := by
  obtain ⟨n, _, h⟩ := andThen_ok_iff.1 h
  by_cases h0 : n = 0
  · rw [if_pos h0] at h; exact (Prod.mk.inj (Except.ok.inj h)).1.symm
  · rw [if_neg h0] at h
    obtain ⟨v, _, h⟩ := andThen_ok_iff.1 h
    exact absurd (Prod.mk.inj (Except.ok.inj h)).2 h0
theorem hitR_no {n : V} {d : Int} (h : d ≤ 0) : hitR n d = (⟨0, 0, 0⟩, false) := by unfold hitR; rw [if_pos h]
theorem hitR_yes {n : V} {d : Int} (h : ¬ d ≤ 0) : hitR n d = (⟨n.1, n.2, d⟩, true) := by unfold hitR; rw [if_neg h]
theorem crates_false {a b : Bd} {h : Ht} (k : cratesX a b = .ok (h, false)) : h = ⟨0, 0, 0⟩ := by
  have hr : ∀ n d, hitR n d = (h, false) → h = ⟨0, 0, 0⟩ := by
    intro n d k; unfold hitR at k; split at k
    · exact (Prod.mk.inj k).1.symm
    · have := (Prod.mk.inj k).2; simp at this
  obtain ⟨d, _, k⟩ := andThen_ok_iff.1 k
  obtain ⟨x, _, k⟩ := andThen_ok_iff.1 k
  split at k
  · exact (Prod.mk.inj (Except.ok.inj k)).1.symm
  · obtain ⟨y, _, k⟩ := andThen_ok_iff.1 k
    split at k
    · exact hr _ _ (Except.ok.inj k)
    · exact hr _ _ (Except.ok.inj k)
theorem both_false {a b : Bd} {h : Ht} (k : bothX a b = .ok (h, false)) : h = ⟨0, 0, 0⟩ := by
  obtain ⟨e, _, k⟩ := andThen_ok_iff.1 k
  obtain ⟨d, _, k⟩ := andThen_ok_iff.1 k
  obtain ⟨u, _, k⟩ := andThen_ok_iff.1 k
  split at k
  · exact crates_false k
  · obtain ⟨x, _, k⟩ := andThen_ok_iff.1 k
    have k := Except.ok.inj k
    unfold hitR at k; split at k
    · exact (Prod.mk.inj k).1.symm
    · have := (Prod.mk.inj k).2; simp at this
end M
theorem refBalls_x (pb : Nat) (e : Int) (a b : Bd) (ha : a.ok) (hb : b.ok) (h1 : a.shape = 1) (h2 : b.shape = 1) (w : World) (hp : PCell w pb e) :
    Calls Try.prog 133 #[.pointer (some ⟨pb, 0, none⟩), .agg #[.int .i64 a.shape, .int .i64 a.sx, .int .i64 a.sy, .int .i64 a.mass, .int .i64 a.px, .int .i64 a.py, .int .i64 a.mx, .int .i64 a.my], .agg #[.int .i64 b.shape, .int .i64 b.sx, .int .i64 b.sy, .int .i64 b.mass, .int .i64 b.px, .int .i64 b.py, .int .i64 b.mx, .int .i64 b.my]] w (RelHb pb e (ballsX a b) w) := by
  have C1 := Lib.hid (refLess_x pb e b.px b.py a.px a.py hb.px hb.py ha.px ha.py)
  have C2 := Lib.hid (refUnit_x pb)
  have C3 := Lib.hid (fun e => refAdd_x pb e a.sx b.sx ha.sx hb.sx)
  have C4 := Lib.hid (refSub_x pb)
  have A1 := beq_iff_eq.2 h1
  have B1 := beq_iff_eq.2 h2
  have z : I64 0 := by unfold I64; omega
  have z1 : I64 4294967296 := by unfold I64; omega
  clear h1 h2
  have hpb : pb < w.heap.size := hp.1; have c0_pb := hp.2.1; have f0_pb := hp.2.2; have PC0 := hp
  have HG0 := Lib.hid (M.rw_refl hp)
  go_enter Try.func133, Try.ntmps133
  go_wp2_with (with_reducible refine M.stopPost ?_)
  (with_reducible refine (C1.out _ (by (repeat (first | (with_reducible assumption) | (with_reducible refine M.pcell_alloc ?_ _) | (with_reducible refine M.pcell_drewN ?_ _) | (with_reducible refine M.pcell_drew ?_) | (with_reducible refine M.pcell_far ?_ _ _ ?hFar; case hFar => (first | omega | ((try simp [go_sem]) <;> omega))) | fail)))).mono ?_); rintro en w1 ⟨dx, dy, e1, rfl, idx, idy, hr, hb⟩
  have G1 : M.RW pb e1 w w1 := M.rw_step (by have G := HG0.out; (repeat (with_reducible refine M.Below.drewN ?_ _)); go_grown) hb hpb
  have S1 : w.heap.size ≤ w1.heap.size := by have := G1.size; rwa [M.setCell_size] at this
  have PC1 : M.PCell w1 pb e1 := M.pcell_behind hb (e := e) (by (repeat (first | (with_reducible assumption) | (with_reducible refine M.pcell_alloc ?_ _) | (with_reducible refine M.pcell_drewN ?_ _) | (with_reducible refine M.pcell_drew ?_) | (with_reducible refine M.pcell_far ?_ _ _ ?hFar; case hFar => (first | omega | ((try simp [go_sem]) <;> omega))) | fail)))
  have V1_a : M.Var w1 (w.heap.size) #[.int .i64 a.shape, .int .i64 a.sx, .int .i64 a.sy, .int .i64 a.mass, .int .i64 a.px, .int .i64 a.py, .int .i64 a.mx, .int .i64 a.my] := M.var_rw (by (repeat (first | (with_reducible assumption) | (with_reducible apply M.var_setV) | (with_reducible apply M.var_setI) | (with_reducible apply M.var_setB) | (with_reducible apply M.var_setHt) | (with_reducible apply M.var_setBd) | (with_reducible apply M.var_set2) | (with_reducible apply M.var_set3) | (with_reducible apply M.var_set4) | (with_reducible apply M.var_set45) | (with_reducible apply M.var_set67) | (with_reducible apply M.var_setF) | (with_reducible refine M.var_alloc' _ _ _ ?_; first | rfl | (focus (simp [go_sem]; done))) | (with_reducible refine M.Var.alloc ?_ _) | (with_reducible refine M.Var.drewN ?_ _) | (with_reducible refine M.Var.drew ?_) | (with_reducible refine M.Var.far ?_ _ _ ?hFar; case hFar => (first | omega | ((try simp [go_sem]) <;> omega))) | fail))) (by omega) hb
  have q1_a_0 : w1.cell? ⟨w.heap.size, 0, none⟩ = some (.int .i64 a.shape) := V1_a.c 0 _ rfl
  have q1_a_1 : w1.cell? ⟨w.heap.size, 1, none⟩ = some (.int .i64 a.sx) := V1_a.c 1 _ rfl
  have q1_a_2 : w1.cell? ⟨w.heap.size, 2, none⟩ = some (.int .i64 a.sy) := V1_a.c 2 _ rfl
  have q1_a_3 : w1.cell? ⟨w.heap.size, 3, none⟩ = some (.int .i64 a.mass) := V1_a.c 3 _ rfl
  have q1_a_4 : w1.cell? ⟨w.heap.size, 4, none⟩ = some (.int .i64 a.px) := V1_a.c 4 _ rfl
  have q1_a_5 : w1.cell? ⟨w.heap.size, 5, none⟩ = some (.int .i64 a.py) := V1_a.c 5 _ rfl
  have q1_a_6 : w1.cell? ⟨w.heap.size, 6, none⟩ = some (.int .i64 a.mx) := V1_a.c 6 _ rfl
  have q1_a_7 : w1.cell? ⟨w.heap.size, 7, none⟩ = some (.int .i64 a.my) := V1_a.c 7 _ rfl
  have f1_a := V1_a.2.2
  have L1_a := V1_a.lt
  have N1_a := Nat.ne_of_gt L1_a
  have M1_a := Nat.ne_of_lt L1_a
  have V1_b : M.Var w1 (w.heap.size + 1) #[.int .i64 b.shape, .int .i64 b.sx, .int .i64 b.sy, .int .i64 b.mass, .int .i64 b.px, .int .i64 b.py, .int .i64 b.mx, .int .i64 b.my] := M.var_rw (by (repeat (first | (with_reducible assumption) | (with_reducible apply M.var_setV) | (with_reducible apply M.var_setI) | (with_reducible apply M.var_setB) | (with_reducible apply M.var_setHt) | (with_reducible apply M.var_setBd) | (with_reducible apply M.var_set2) | (with_reducible apply M.var_set3) | (with_reducible apply M.var_set4) | (with_reducible apply M.var_set45) | (with_reducible apply M.var_set67) | (with_reducible apply M.var_setF) | (with_reducible refine M.var_alloc' _ _ _ ?_; first | rfl | (focus (simp [go_sem]; done))) | (with_reducible refine M.Var.alloc ?_ _) | (with_reducible refine M.Var.drewN ?_ _) | (with_reducible refine M.Var.drew ?_) | (with_reducible refine M.Var.far ?_ _ _ ?hFar; case hFar => (first | omega | ((try simp [go_sem]) <;> omega))) | fail))) (by omega) hb
  have q1_b_0 : w1.cell? ⟨w.heap.size + 1, 0, none⟩ = some (.int .i64 b.shape) := V1_b.c 0 _ rfl
  have q1_b_1 : w1.cell? ⟨w.heap.size + 1, 1, none⟩ = some (.int .i64 b.sx) := V1_b.c 1 _ rfl
  have q1_b_2 : w1.cell? ⟨w.heap.size + 1, 2, none⟩ = some (.int .i64 b.sy) := V1_b.c 2 _ rfl
  have q1_b_3 : w1.cell? ⟨w.heap.size + 1, 3, none⟩ = some (.int .i64 b.mass) := V1_b.c 3 _ rfl
  have q1_b_4 : w1.cell? ⟨w.heap.size + 1, 4, none⟩ = some (.int .i64 b.px) := V1_b.c 4 _ rfl
  have q1_b_5 : w1.cell? ⟨w.heap.size + 1, 5, none⟩ = some (.int .i64 b.py) := V1_b.c 5 _ rfl
  have q1_b_6 : w1.cell? ⟨w.heap.size + 1, 6, none⟩ = some (.int .i64 b.mx) := V1_b.c 6 _ rfl
  have q1_b_7 : w1.cell? ⟨w.heap.size + 1, 7, none⟩ = some (.int .i64 b.my) := V1_b.c 7 _ rfl
  have f1_b := V1_b.2.2
  have L1_b := V1_b.lt
  have N1_b := Nat.ne_of_gt L1_b
  have M1_b := Nat.ne_of_lt L1_b
  have V1_r : M.Var w1 (w.heap.size + 1 + 1) #[.int .i64 0, .int .i64 0, .int .i64 0] := M.var_rw (by (repeat (first | (with_reducible assumption) | (with_reducible apply M.var_setV) | (with_reducible apply M.var_setI) | (with_reducible apply M.var_setB) | (with_reducible apply M.var_setHt) | (with_reducible apply M.var_setBd) | (with_reducible apply M.var_set2) | (with_reducible apply M.var_set3) | (with_reducible apply M.var_set4) | (with_reducible apply M.var_set45) | (with_reducible apply M.var_set67) | (with_reducible apply M.var_setF) | (with_reducible refine M.var_alloc' _ _ _ ?_; first | rfl | (focus (simp [go_sem]; done))) | (with_reducible refine M.Var.alloc ?_ _) | (with_reducible refine M.Var.drewN ?_ _) | (with_reducible refine M.Var.drew ?_) | (with_reducible refine M.Var.far ?_ _ _ ?hFar; case hFar => (first | omega | ((try simp [go_sem]) <;> omega))) | fail))) (by omega) hb
  have q1_r_0 : w1.cell? ⟨w.heap.size + 1 + 1, 0, none⟩ = some (.int .i64 0) := V1_r.c 0 _ rfl
  have q1_r_1 : w1.cell? ⟨w.heap.size + 1 + 1, 1, none⟩ = some (.int .i64 0) := V1_r.c 1 _ rfl
  have q1_r_2 : w1.cell? ⟨w.heap.size + 1 + 1, 2, none⟩ = some (.int .i64 0) := V1_r.c 2 _ rfl
  have f1_r := V1_r.2.2
  have L1_r := V1_r.lt
  have N1_r := Nat.ne_of_gt L1_r
  have M1_r := Nat.ne_of_lt L1_r
  have HR1 := Lib.hid hr; clear hr
  have c1_pb := PC1.2.1; have f1_pb := PC1.2.2; have L1_pb := PC1.1; have N1_pb := Nat.ne_of_gt L1_pb; have M1_pb := Nat.ne_of_lt L1_pb
  have HG1 := Lib.hid G1; clear G1 hb
  go_wp2_with (with_reducible refine M.stopPost ?_)
  (with_reducible refine (C2.out e1 _ _ idx idy _ (by (repeat (first | (with_reducible assumption) | (with_reducible refine M.pcell_alloc ?_ _) | (with_reducible refine M.pcell_drewN ?_ _) | (with_reducible refine M.pcell_drew ?_) | (with_reducible refine M.pcell_far ?_ _ _ ?hFar; case hFar => (first | omega | ((try simp [go_sem]) <;> omega))) | fail)))).mono ?_); rintro en w2 ⟨ux, uy, l, e2, rfl, iux, iuy, il, hr, hb⟩
  have G2 : M.RW pb e2 w w2 := M.rw_step (by have G := HG1.out; (repeat (with_reducible refine M.Below.drewN ?_ _)); go_grown) hb hpb
  have S2 : w.heap.size ≤ w2.heap.size := by have := G2.size; rwa [M.setCell_size] at this
  have PC2 : M.PCell w2 pb e2 := M.pcell_behind hb (e := e1) (by (repeat (first | (with_reducible assumption) | (with_reducible refine M.pcell_alloc ?_ _) | (with_reducible refine M.pcell_drewN ?_ _) | (with_reducible refine M.pcell_drew ?_) | (with_reducible refine M.pcell_far ?_ _ _ ?hFar; case hFar => (first | omega | ((try simp [go_sem]) <;> omega))) | fail)))
  have V2_a : M.Var w2 (w.heap.size) #[.int .i64 a.shape, .int .i64 a.sx, .int .i64 a.sy, .int .i64 a.mass, .int .i64 a.px, .int .i64 a.py, .int .i64 a.mx, .int .i64 a.my] := M.var_rw (by (repeat (first | (with_reducible assumption) | (with_reducible apply M.var_setV) | (with_reducible apply M.var_setI) | (with_reducible apply M.var_setB) | (with_reducible apply M.var_setHt) | (with_reducible apply M.var_setBd) | (with_reducible apply M.var_set2) | (with_reducible apply M.var_set3) | (with_reducible apply M.var_set4) | (with_reducible apply M.var_set45) | (with_reducible apply M.var_set67) | (with_reducible apply M.var_setF) | (with_reducible refine M.var_alloc' _ _ _ ?_; first | rfl | (focus (simp [go_sem]; done))) | (with_reducible refine M.Var.alloc ?_ _) | (with_reducible refine M.Var.drewN ?_ _) | (with_reducible refine M.Var.drew ?_) | (with_reducible refine M.Var.far ?_ _ _ ?hFar; case hFar => (first | omega | ((try simp [go_sem]) <;> omega))) | fail))) (by omega) hb
  have q2_a_0 : w2.cell? ⟨w.heap.size, 0, none⟩ = some (.int .i64 a.shape) := V2_a.c 0 _ rfl
  have q2_a_1 : w2.cell? ⟨w.heap.size, 1, none⟩ = some (.int .i64 a.sx) := V2_a.c 1 _ rfl
  have q2_a_2 : w2.cell? ⟨w.heap.size, 2, none⟩ = some (.int .i64 a.sy) := V2_a.c 2 _ rfl
  have q2_a_3 : w2.cell? ⟨w.heap.size, 3, none⟩ = some (.int .i64 a.mass) := V2_a.c 3 _ rfl
  have q2_a_4 : w2.cell? ⟨w.heap.size, 4, none⟩ = some (.int .i64 a.px) := V2_a.c 4 _ rfl
  have q2_a_5 : w2.cell? ⟨w.heap.size, 5, none⟩ = some (.int .i64 a.py) := V2_a.c 5 _ rfl
  have q2_a_6 : w2.cell? ⟨w.heap.size, 6, none⟩ = some (.int .i64 a.mx) := V2_a.c 6 _ rfl
  have q2_a_7 : w2.cell? ⟨w.heap.size, 7, none⟩ = some (.int .i64 a.my) := V2_a.c 7 _ rfl
  have f2_a := V2_a.2.2
  have L2_a := V2_a.lt
  have N2_a := Nat.ne_of_gt L2_a
  have M2_a := Nat.ne_of_lt L2_a
  have V2_b : M.Var w2 (w.heap.size + 1) #[.int .i64 b.shape, .int .i64 b.sx, .int .i64 b.sy, .int .i64 b.mass, .int .i64 b.px, .int .i64 b.py, .int .i64 b.mx, .int .i64 b.my] := M.var_rw (by (repeat (first | (with_reducible assumption) | (with_reducible apply M.var_setV) | (with_reducible apply M.var_setI) | (with_reducible apply M.var_setB) | (with_reducible apply M.var_setHt) | (with_reducible apply M.var_setBd) | (with_reducible apply M.var_set2) | (with_reducible apply M.var_set3) | (with_reducible apply M.var_set4) | (with_reducible apply M.var_set45) | (with_reducible apply M.var_set67) | (with_reducible apply M.var_setF) | (with_reducible refine M.var_alloc' _ _ _ ?_; first | rfl | (focus (simp [go_sem]; done))) | (with_reducible refine M.Var.alloc ?_ _) | (with_reducible refine M.Var.drewN ?_ _) | (with_reducible refine M.Var.drew ?_) | (with_reducible refine M.Var.far ?_ _ _ ?hFar; case hFar => (first | omega | ((try simp [go_sem]) <;> omega))) | fail))) (by omega) hb
  have q2_b_0 : w2.cell? ⟨w.heap.size + 1, 0, none⟩ = some (.int .i64 b.shape) := V2_b.c 0 _ rfl
  have q2_b_1 : w2.cell? ⟨w.heap.size + 1, 1, none⟩ = some (.int .i64 b.sx) := V2_b.c 1 _ rfl
  have q2_b_2 : w2.cell? ⟨w.heap.size + 1, 2, none⟩ = some (.int .i64 b.sy) := V2_b.c 2 _ rfl
  have q2_b_3 : w2.cell? ⟨w.heap.size + 1, 3, none⟩ = some (.int .i64 b.mass) := V2_b.c 3 _ rfl
  have q2_b_4 : w2.cell? ⟨w.heap.size + 1, 4, none⟩ = some (.int .i64 b.px) := V2_b.c 4 _ rfl
  have q2_b_5 : w2.cell? ⟨w.heap.size + 1, 5, none⟩ = some (.int .i64 b.py) := V2_b.c 5 _ rfl
  have q2_b_6 : w2.cell? ⟨w.heap.size + 1, 6, none⟩ = some (.int .i64 b.mx) := V2_b.c 6 _ rfl
  have q2_b_7 : w2.cell? ⟨w.heap.size + 1, 7, none⟩ = some (.int .i64 b.my) := V2_b.c 7 _ rfl
  have f2_b := V2_b.2.2
  have L2_b := V2_b.lt
  have N2_b := Nat.ne_of_gt L2_b
  have M2_b := Nat.ne_of_lt L2_b
  have V2_r : M.Var w2 (w.heap.size + 1 + 1) #[.int .i64 0, .int .i64 0, .int .i64 0] := M.var_rw (by (repeat (first | (with_reducible assumption) | (with_reducible apply M.var_setV) | (with_reducible apply M.var_setI) | (with_reducible apply M.var_setB) | (with_reducible apply M.var_setHt) | (with_reducible apply M.var_setBd) | (with_reducible apply M.var_set2) | (with_reducible apply M.var_set3) | (with_reducible apply M.var_set4) | (with_reducible apply M.var_set45) | (with_reducible apply M.var_set67) | (with_reducible apply M.var_setF) | (with_reducible refine M.var_alloc' _ _ _ ?_; first | rfl | (focus (simp [go_sem]; done))) | (with_reducible refine M.Var.alloc ?_ _) | (with_reducible refine M.Var.drewN ?_ _) | (with_reducible refine M.Var.drew ?_) | (with_reducible refine M.Var.far ?_ _ _ ?hFar; case hFar => (first | omega | ((try simp [go_sem]) <;> omega))) | fail))) (by omega) hb
  have q2_r_0 : w2.cell? ⟨w.heap.size + 1 + 1, 0, none⟩ = some (.int .i64 0) := V2_r.c 0 _ rfl
  have q2_r_1 : w2.cell? ⟨w.heap.size + 1 + 1, 1, none⟩ = some (.int .i64 0) := V2_r.c 1 _ rfl
  have q2_r_2 : w2.cell? ⟨w.heap.size + 1 + 1, 2, none⟩ = some (.int .i64 0) := V2_r.c 2 _ rfl
  have f2_r := V2_r.2.2
  have L2_r := V2_r.lt
  have N2_r := Nat.ne_of_gt L2_r
  have M2_r := Nat.ne_of_lt L2_r
  have V2_d : M.Var w2 (w1.heap.size) #[.int .i64 dx, .int .i64 dy] := M.var_rw (by (repeat (first | (with_reducible assumption) | (with_reducible apply M.var_setV) | (with_reducible apply M.var_setI) | (with_reducible apply M.var_setB) | (with_reducible apply M.var_setHt) | (with_reducible apply M.var_setBd) | (with_reducible apply M.var_set2) | (with_reducible apply M.var_set3) | (with_reducible apply M.var_set4) | (with_reducible apply M.var_set45) | (with_reducible apply M.var_set67) | (with_reducible apply M.var_setF) | (with_reducible refine M.var_alloc' _ _ _ ?_; first | rfl | (focus (simp [go_sem]; done))) | (with_reducible refine M.Var.alloc ?_ _) | (with_reducible refine M.Var.drewN ?_ _) | (with_reducible refine M.Var.drew ?_) | (with_reducible refine M.Var.far ?_ _ _ ?hFar; case hFar => (first | omega | ((try simp [go_sem]) <;> omega))) | fail))) (by omega) hb
  have q2_d_0 : w2.cell? ⟨w1.heap.size, 0, none⟩ = some (.int .i64 dx) := V2_d.c 0 _ rfl
  have q2_d_1 : w2.cell? ⟨w1.heap.size, 1, none⟩ = some (.int .i64 dy) := V2_d.c 1 _ rfl
  have f2_d := V2_d.2.2
  have L2_d := V2_d.lt
  have N2_d := Nat.ne_of_gt L2_d
  have M2_d := Nat.ne_of_lt L2_d
  clear V1_a f1_a q1_a_0 q1_a_1 q1_a_2 q1_a_3 q1_a_4 q1_a_5 q1_a_6 q1_a_7 V1_b f1_b q1_b_0 q1_b_1 q1_b_2 q1_b_3 q1_b_4 q1_b_5 q1_b_6 q1_b_7 V1_r f1_r q1_r_0 q1_r_1 q1_r_2 PC1 c1_pb f1_pb
  have HR2 := Lib.hid hr; clear hr
  have c2_pb := PC2.2.1; have f2_pb := PC2.2.2; have L2_pb := PC2.1; have N2_pb := Nat.ne_of_gt L2_pb; have M2_pb := Nat.ne_of_lt L2_pb
  have HG2 := Lib.hid G2; clear G2 hb
  go_wp2_with (with_reducible refine M.stopPost ?_)
  (with_reducible refine (C3.out e2 _ (by (repeat (first | (with_reducible assumption) | (with_reducible refine M.pcell_alloc ?_ _) | (with_reducible refine M.pcell_drewN ?_ _) | (with_reducible refine M.pcell_drew ?_) | (with_reducible refine M.pcell_far ?_ _ _ ?hFar; case hFar => (first | omega | ((try simp [go_sem]) <;> omega))) | fail)))).mono ?_); rintro en w3 ⟨sm, e3, rfl, ism, hr, hb⟩
  have G3 : M.RW pb e3 w w3 := M.rw_step (by have G := HG2.out; (repeat (with_reducible refine M.Below.drewN ?_ _)); go_grown) hb hpb
  have S3 : w.heap.size ≤ w3.heap.size := by have := G3.size; rwa [M.setCell_size] at this
  have PC3 : M.PCell w3 pb e3 := M.pcell_behind hb (e := e2) (by (repeat (first | (with_reducible assumption) | (with_reducible refine M.pcell_alloc ?_ _) | (with_reducible refine M.pcell_drewN ?_ _) | (with_reducible refine M.pcell_drew ?_) | (with_reducible refine M.pcell_far ?_ _ _ ?hFar; case hFar => (first | omega | ((try simp [go_sem]) <;> omega))) | fail)))
  have V3_a : M.Var w3 (w.heap.size) #[.int .i64 a.shape, .int .i64 a.sx, .int .i64 a.sy, .int .i64 a.mass, .int .i64 a.px, .int .i64 a.py, .int .i64 a.mx, .int .i64 a.my] := M.var_rw (by (repeat (first | (with_reducible assumption) | (with_reducible apply M.var_setV) | (with_reducible apply M.var_setI) | (with_reducible apply M.var_setB) | (with_reducible apply M.var_setHt) | (with_reducible apply M.var_setBd) | (with_reducible apply M.var_set2) | (with_reducible apply M.var_set3) | (with_reducible apply M.var_set4) | (with_reducible apply M.var_set45) | (with_reducible apply M.var_set67) | (with_reducible apply M.var_setF) | (with_reducible refine M.var_alloc' _ _ _ ?_; first | rfl | (focus (simp [go_sem]; done))) | (with_reducible refine M.Var.alloc ?_ _) | (with_reducible refine M.Var.drewN ?_ _) | (with_reducible refine M.Var.drew ?_) | (with_reducible refine M.Var.far ?_ _ _ ?hFar; case hFar => (first | omega | ((try simp [go_sem]) <;> omega))) | fail))) (by omega) hb
  have q3_a_0 : w3.cell? ⟨w.heap.size, 0, none⟩ = some (.int .i64 a.shape) := V3_a.c 0 _ rfl
  have q3_a_1 : w3.cell? ⟨w.heap.size, 1, none⟩ = some (.int .i64 a.sx) := V3_a.c 1 _ rfl
  have q3_a_2 : w3.cell? ⟨w.heap.size, 2, none⟩ = some (.int .i64 a.sy) := V3_a.c 2 _ rfl
  have q3_a_3 : w3.cell? ⟨w.heap.size, 3, none⟩ = some (.int .i64 a.mass) := V3_a.c 3 _ rfl
  have q3_a_4 : w3.cell? ⟨w.heap.size, 4, none⟩ = some (.int .i64 a.px) := V3_a.c 4 _ rfl
  have q3_a_5 : w3.cell? ⟨w.heap.size, 5, none⟩ = some (.int .i64 a.py) := V3_a.c 5 _ rfl
  have q3_a_6 : w3.cell? ⟨w.heap.size, 6, none⟩ = some (.int .i64 a.mx) := V3_a.c 6 _ rfl
  have q3_a_7 : w3.cell? ⟨w.heap.size, 7, none⟩ = some (.int .i64 a.my) := V3_a.c 7 _ rfl
  have f3_a := V3_a.2.2
  have L3_a := V3_a.lt
  have N3_a := Nat.ne_of_gt L3_a
  have M3_a := Nat.ne_of_lt L3_a
  have V3_b : M.Var w3 (w.heap.size + 1) #[.int .i64 b.shape, .int .i64 b.sx, .int .i64 b.sy, .int .i64 b.mass, .int .i64 b.px, .int .i64 b.py, .int .i64 b.mx, .int .i64 b.my] := M.var_rw (by (repeat (first | (with_reducible assumption) | (with_reducible apply M.var_setV) | (with_reducible apply M.var_setI) | (with_reducible apply M.var_setB) | (with_reducible apply M.var_setHt) | (with_reducible apply M.var_setBd) | (with_reducible apply M.var_set2) | (with_reducible apply M.var_set3) | (with_reducible apply M.var_set4) | (with_reducible apply M.var_set45) | (with_reducible apply M.var_set67) | (with_reducible apply M.var_setF) | (with_reducible refine M.var_alloc' _ _ _ ?_; first | rfl | (focus (simp [go_sem]; done))) | (with_reducible refine M.Var.alloc ?_ _) | (with_reducible refine M.Var.drewN ?_ _) | (with_reducible refine M.Var.drew ?_) | (with_reducible refine M.Var.far ?_ _ _ ?hFar; case hFar => (first | omega | ((try simp [go_sem]) <;> omega))) | fail))) (by omega) hb
  have q3_b_0 : w3.cell? ⟨w.heap.size + 1, 0, none⟩ = some (.int .i64 b.shape) := V3_b.c 0 _ rfl
  have q3_b_1 : w3.cell? ⟨w.heap.size + 1, 1, none⟩ = some (.int .i64 b.sx) := V3_b.c 1 _ rfl
  have q3_b_2 : w3.cell? ⟨w.heap.size + 1, 2, none⟩ = some (.int .i64 b.sy) := V3_b.c 2 _ rfl
  have q3_b_3 : w3.cell? ⟨w.heap.size + 1, 3, none⟩ = some (.int .i64 b.mass) := V3_b.c 3 _ rfl
  have q3_b_4 : w3.cell? ⟨w.heap.size + 1, 4, none⟩ = some (.int .i64 b.px) := V3_b.c 4 _ rfl
  have q3_b_5 : w3.cell? ⟨w.heap.size + 1, 5, none⟩ = some (.int .i64 b.py) := V3_b.c 5 _ rfl
  have q3_b_6 : w3.cell? ⟨w.heap.size + 1, 6, none⟩ = some (.int .i64 b.mx) := V3_b.c 6 _ rfl
  have q3_b_7 : w3.cell? ⟨w.heap.size + 1, 7, none⟩ = some (.int .i64 b.my) := V3_b.c 7 _ rfl
  have f3_b := V3_b.2.2
  have L3_b := V3_b.lt
  have N3_b := Nat.ne_of_gt L3_b
  have M3_b := Nat.ne_of_lt L3_b
  have V3_r : M.Var w3 (w.heap.size + 1 + 1) #[.int .i64 0, .int .i64 0, .int .i64 0] := M.var_rw (by (repeat (first | (with_reducible assumption) | (with_reducible apply M.var_setV) | (with_reducible apply M.var_setI) | (with_reducible apply M.var_setB) | (with_reducible apply M.var_setHt) | (with_reducible apply M.var_setBd) | (with_reducible apply M.var_set2) | (with_reducible apply M.var_set3) | (with_reducible apply M.var_set4) | (with_reducible apply M.var_set45) | (with_reducible apply M.var_set67) | (with_reducible apply M.var_setF) | (with_reducible refine M.var_alloc' _ _ _ ?_; first | rfl | (focus (simp [go_sem]; done))) | (with_reducible refine M.Var.alloc ?_ _) | (with_reducible refine M.Var.drewN ?_ _) | (with_reducible refine M.Var.drew ?_) | (with_reducible refine M.Var.far ?_ _ _ ?hFar; case hFar => (first | omega | ((try simp [go_sem]) <;> omega))) | fail))) (by omega) hb
  have q3_r_0 : w3.cell? ⟨w.heap.size + 1 + 1, 0, none⟩ = some (.int .i64 0) := V3_r.c 0 _ rfl
  have q3_r_1 : w3.cell? ⟨w.heap.size + 1 + 1, 1, none⟩ = some (.int .i64 0) := V3_r.c 1 _ rfl
  have q3_r_2 : w3.cell? ⟨w.heap.size + 1 + 1, 2, none⟩ = some (.int .i64 0) := V3_r.c 2 _ rfl
  have f3_r := V3_r.2.2
  have L3_r := V3_r.lt
  have N3_r := Nat.ne_of_gt L3_r
  have M3_r := Nat.ne_of_lt L3_r
  have V3_d : M.Var w3 (w1.heap.size) #[.int .i64 dx, .int .i64 dy] := M.var_rw (by (repeat (first | (with_reducible assumption) | (with_reducible apply M.var_setV) | (with_reducible apply M.var_setI) | (with_reducible apply M.var_setB) | (with_reducible apply M.var_setHt) | (with_reducible apply M.var_setBd) | (with_reducible apply M.var_set2) | (with_reducible apply M.var_set3) | (with_reducible apply M.var_set4) | (with_reducible apply M.var_set45) | (with_reducible apply M.var_set67) | (with_reducible apply M.var_setF) | (with_reducible refine M.var_alloc' _ _ _ ?_; first | rfl | (focus (simp [go_sem]; done))) | (with_reducible refine M.Var.alloc ?_ _) | (with_reducible refine M.Var.drewN ?_ _) | (with_reducible refine M.Var.drew ?_) | (with_reducible refine M.Var.far ?_ _ _ ?hFar; case hFar => (first | omega | ((try simp [go_sem]) <;> omega))) | fail))) (by omega) hb
  have q3_d_0 : w3.cell? ⟨w1.heap.size, 0, none⟩ = some (.int .i64 dx) := V3_d.c 0 _ rfl
  have q3_d_1 : w3.cell? ⟨w1.heap.size, 1, none⟩ = some (.int .i64 dy) := V3_d.c 1 _ rfl
  have f3_d := V3_d.2.2
  have L3_d := V3_d.lt
  have N3_d := Nat.ne_of_gt L3_d
  have M3_d := Nat.ne_of_lt L3_d
  have V3_n : M.Var w3 (w2.heap.size) #[.int .i64 ux, .int .i64 uy] := M.var_rw (by (repeat (first | (with_reducible assumption) | (with_reducible apply M.var_setV) | (with_reducible apply M.var_setI) | (with_reducible apply M.var_setB) | (with_reducible apply M.var_setHt) | (with_reducible apply M.var_setBd) | (with_reducible apply M.var_set2) | (with_reducible apply M.var_set3) | (with_reducible apply M.var_set4) | (with_reducible apply M.var_set45) | (with_reducible apply M.var_set67) | (with_reducible apply M.var_setF) | (with_reducible refine M.var_alloc' _ _ _ ?_; first | rfl | (focus (simp [go_sem]; done))) | (with_reducible refine M.Var.alloc ?_ _) | (with_reducible refine M.Var.drewN ?_ _) | (with_reducible refine M.Var.drew ?_) | (with_reducible refine M.Var.far ?_ _ _ ?hFar; case hFar => (first | omega | ((try simp [go_sem]) <;> omega))) | fail))) (by omega) hb
  have q3_n_0 : w3.cell? ⟨w2.heap.size, 0, none⟩ = some (.int .i64 ux) := V3_n.c 0 _ rfl
  have q3_n_1 : w3.cell? ⟨w2.heap.size, 1, none⟩ = some (.int .i64 uy) := V3_n.c 1 _ rfl
  have f3_n := V3_n.2.2
  have L3_n := V3_n.lt
  have N3_n := Nat.ne_of_gt L3_n
  have M3_n := Nat.ne_of_lt L3_n
  clear V2_a f2_a q2_a_0 q2_a_1 q2_a_2 q2_a_3 q2_a_4 q2_a_5 q2_a_6 q2_a_7 V2_b f2_b q2_b_0 q2_b_1 q2_b_2 q2_b_3 q2_b_4 q2_b_5 q2_b_6 q2_b_7 V2_r f2_r q2_r_0 q2_r_1 q2_r_2 V2_d f2_d q2_d_0 q2_d_1 PC2 c2_pb f2_pb
  have HR3 := Lib.hid hr; clear hr
  have c3_pb := PC3.2.1; have f3_pb := PC3.2.2; have L3_pb := PC3.1; have N3_pb := Nat.ne_of_gt L3_pb; have M3_pb := Nat.ne_of_lt L3_pb
  have HG3 := Lib.hid G3; clear G3 hb
  go_wp2_with (with_reducible refine M.stopPost ?_)
  (with_reducible refine (C4.out e3 _ _ ism il _ (by (repeat (first | (with_reducible assumption) | (with_reducible refine M.pcell_alloc ?_ _) | (with_reducible refine M.pcell_drewN ?_ _) | (with_reducible refine M.pcell_drew ?_) | (with_reducible refine M.pcell_far ?_ _ _ ?hFar; case hFar => (first | omega | ((try simp [go_sem]) <;> omega))) | fail)))).mono ?_); rintro en w4 ⟨k, e4, rfl, ik, hr, hb⟩
  have G4 : M.RW pb e4 w w4 := M.rw_step (by have G := HG3.out; (repeat (with_reducible refine M.Below.drewN ?_ _)); go_grown) hb hpb
  have S4 : w.heap.size ≤ w4.heap.size := by have := G4.size; rwa [M.setCell_size] at this
  have PC4 : M.PCell w4 pb e4 := M.pcell_behind hb (e := e3) (by (repeat (first | (with_reducible assumption) | (with_reducible refine M.pcell_alloc ?_ _) | (with_reducible refine M.pcell_drewN ?_ _) | (with_reducible refine M.pcell_drew ?_) | (with_reducible refine M.pcell_far ?_ _ _ ?hFar; case hFar => (first | omega | ((try simp [go_sem]) <;> omega))) | fail)))
  have V4_a : M.Var w4 (w.heap.size) #[.int .i64 a.shape, .int .i64 a.sx, .int .i64 a.sy, .int .i64 a.mass, .int .i64 a.px, .int .i64 a.py, .int .i64 a.mx, .int .i64 a.my] := M.var_rw (by (repeat (first | (with_reducible assumption) | (with_reducible apply M.var_setV) | (with_reducible apply M.var_setI) | (with_reducible apply M.var_setB) | (with_reducible apply M.var_setHt) | (with_reducible apply M.var_setBd) | (with_reducible apply M.var_set2) | (with_reducible apply M.var_set3) | (with_reducible apply M.var_set4) | (with_reducible apply M.var_set45) | (with_reducible apply M.var_set67) | (with_reducible apply M.var_setF) | (with_reducible refine M.var_alloc' _ _ _ ?_; first | rfl | (focus (simp [go_sem]; done))) | (with_reducible refine M.Var.alloc ?_ _) | (with_reducible refine M.Var.drewN ?_ _) | (with_reducible refine M.Var.drew ?_) | (with_reducible refine M.Var.far ?_ _ _ ?hFar; case hFar => (first | omega | ((try simp [go_sem]) <;> omega))) | fail))) (by omega) hb
  have q4_a_0 : w4.cell? ⟨w.heap.size, 0, none⟩ = some (.int .i64 a.shape) := V4_a.c 0 _ rfl
  have q4_a_1 : w4.cell? ⟨w.heap.size, 1, none⟩ = some (.int .i64 a.sx) := V4_a.c 1 _ rfl
  have q4_a_2 : w4.cell? ⟨w.heap.size, 2, none⟩ = some (.int .i64 a.sy) := V4_a.c 2 _ rfl
  have q4_a_3 : w4.cell? ⟨w.heap.size, 3, none⟩ = some (.int .i64 a.mass) := V4_a.c 3 _ rfl
  have q4_a_4 : w4.cell? ⟨w.heap.size, 4, none⟩ = some (.int .i64 a.px) := V4_a.c 4 _ rfl
  have q4_a_5 : w4.cell? ⟨w.heap.size, 5, none⟩ = some (.int .i64 a.py) := V4_a.c 5 _ rfl
  have q4_a_6 : w4.cell? ⟨w.heap.size, 6, none⟩ = some (.int .i64 a.mx) := V4_a.c 6 _ rfl
  have q4_a_7 : w4.cell? ⟨w.heap.size, 7, none⟩ = some (.int .i64 a.my) := V4_a.c 7 _ rfl
  have f4_a := V4_a.2.2
  have L4_a := V4_a.lt
  have N4_a := Nat.ne_of_gt L4_a
  have M4_a := Nat.ne_of_lt L4_a
  have V4_b : M.Var w4 (w.heap.size + 1) #[.int .i64 b.shape, .int .i64 b.sx, .int .i64 b.sy, .int .i64 b.mass, .int .i64 b.px, .int .i64 b.py, .int .i64 b.mx, .int .i64 b.my] := M.var_rw (by (repeat (first | (with_reducible assumption) | (with_reducible apply M.var_setV) | (with_reducible apply M.var_setI) | (with_reducible apply M.var_setB) | (with_reducible apply M.var_setHt) | (with_reducible apply M.var_setBd) | (with_reducible apply M.var_set2) | (with_reducible apply M.var_set3) | (with_reducible apply M.var_set4) | (with_reducible apply M.var_set45) | (with_reducible apply M.var_set67) | (with_reducible apply M.var_setF) | (with_reducible refine M.var_alloc' _ _ _ ?_; first | rfl | (focus (simp [go_sem]; done))) | (with_reducible refine M.Var.alloc ?_ _) | (with_reducible refine M.Var.drewN ?_ _) | (with_reducible refine M.Var.drew ?_) | (with_reducible refine M.Var.far ?_ _ _ ?hFar; case hFar => (first | omega | ((try simp [go_sem]) <;> omega))) | fail))) (by omega) hb
  have q4_b_0 : w4.cell? ⟨w.heap.size + 1, 0, none⟩ = some (.int .i64 b.shape) := V4_b.c 0 _ rfl
  have q4_b_1 : w4.cell? ⟨w.heap.size + 1, 1, none⟩ = some (.int .i64 b.sx) := V4_b.c 1 _ rfl
  have q4_b_2 : w4.cell? ⟨w.heap.size + 1, 2, none⟩ = some (.int .i64 b.sy) := V4_b.c 2 _ rfl
  have q4_b_3 : w4.cell? ⟨w.heap.size + 1, 3, none⟩ = some (.int .i64 b.mass) := V4_b.c 3 _ rfl
  have q4_b_4 : w4.cell? ⟨w.heap.size + 1, 4, none⟩ = some (.int .i64 b.px) := V4_b.c 4 _ rfl
  have q4_b_5 : w4.cell? ⟨w.heap.size + 1, 5, none⟩ = some (.int .i64 b.py) := V4_b.c 5 _ rfl
  have q4_b_6 : w4.cell? ⟨w.heap.size + 1, 6, none⟩ = some (.int .i64 b.mx) := V4_b.c 6 _ rfl
  have q4_b_7 : w4.cell? ⟨w.heap.size + 1, 7, none⟩ = some (.int .i64 b.my) := V4_b.c 7 _ rfl
  have f4_b := V4_b.2.2
  have L4_b := V4_b.lt
  have N4_b := Nat.ne_of_gt L4_b
  have M4_b := Nat.ne_of_lt L4_b
  have V4_r : M.Var w4 (w.heap.size + 1 + 1) #[.int .i64 0, .int .i64 0, .int .i64 0] := M.var_rw (by (repeat (first | (with_reducible assumption) | (with_reducible apply M.var_setV) | (with_reducible apply M.var_setI) | (with_reducible apply M.var_setB) | (with_reducible apply M.var_setHt) | (with_reducible apply M.var_setBd) | (with_reducible apply M.var_set2) | (with_reducible apply M.var_set3) | (with_reducible apply M.var_set4) | (with_reducible apply M.var_set45) | (with_reducible apply M.var_set67) | (with_reducible apply M.var_setF) | (with_reducible refine M.var_alloc' _ _ _ ?_; first | rfl | (focus (simp [go_sem]; done))) | (with_reducible refine M.Var.alloc ?_ _) | (with_reducible refine M.Var.drewN ?_ _) | (with_reducible refine M.Var.drew ?_) | (with_reducible refine M.Var.far ?_ _ _ ?hFar; case hFar => (first | omega | ((try simp [go_sem]) <;> omega))) | fail))) (by omega) hb
  have q4_r_0 : w4.cell? ⟨w.heap.size + 1 + 1, 0, none⟩ = some (.int .i64 0) := V4_r.c 0 _ rfl
  have q4_r_1 : w4.cell? ⟨w.heap.size + 1 + 1, 1, none⟩ = some (.int .i64 0) := V4_r.c 1 _ rfl
  have q4_r_2 : w4.cell? ⟨w.heap.size + 1 + 1, 2, none⟩ = some (.int .i64 0) := V4_r.c 2 _ rfl
  have f4_r := V4_r.2.2
  have L4_r := V4_r.lt
  have N4_r := Nat.ne_of_gt L4_r
  have M4_r := Nat.ne_of_lt L4_r
  have V4_d : M.Var w4 (w1.heap.size) #[.int .i64 dx, .int .i64 dy] := M.var_rw (by (repeat (first | (with_reducible assumption) | (with_reducible apply M.var_setV) | (with_reducible apply M.var_setI) | (with_reducible apply M.var_setB) | (with_reducible apply M.var_setHt) | (with_reducible apply M.var_setBd) | (with_reducible apply M.var_set2) | (with_reducible apply M.var_set3) | (with_reducible apply M.var_set4) | (with_reducible apply M.var_set45) | (with_reducible apply M.var_set67) | (with_reducible apply M.var_setF) | (with_reducible refine M.var_alloc' _ _ _ ?_; first | rfl | (focus (simp [go_sem]; done))) | (with_reducible refine M.Var.alloc ?_ _) | (with_reducible refine M.Var.drewN ?_ _) | (with_reducible refine M.Var.drew ?_) | (with_reducible refine M.Var.far ?_ _ _ ?hFar; case hFar => (first | omega | ((try simp [go_sem]) <;> omega))) | fail))) (by omega) hb
  have q4_d_0 : w4.cell? ⟨w1.heap.size, 0, none⟩ = some (.int .i64 dx) := V4_d.c 0 _ rfl
  have q4_d_1 : w4.cell? ⟨w1.heap.size, 1, none⟩ = some (.int .i64 dy) := V4_d.c 1 _ rfl
  have f4_d := V4_d.2.2
  have L4_d := V4_d.lt
  have N4_d := Nat.ne_of_gt L4_d
  have M4_d := Nat.ne_of_lt L4_d
  have V4_n : M.Var w4 (w2.heap.size) #[.int .i64 ux, .int .i64 uy] := M.var_rw (by (repeat (first | (with_reducible assumption) | (with_reducible apply M.var_setV) | (with_reducible apply M.var_setI) | (with_reducible apply M.var_setB) | (with_reducible apply M.var_setHt) | (with_reducible apply M.var_setBd) | (with_reducible apply M.var_set2) | (with_reducible apply M.var_set3) | (with_reducible apply M.var_set4) | (with_reducible apply M.var_set45) | (with_reducible apply M.var_set67) | (with_reducible apply M.var_setF) | (with_reducible refine M.var_alloc' _ _ _ ?_; first | rfl | (focus (simp [go_sem]; done))) | (with_reducible refine M.Var.alloc ?_ _) | (with_reducible refine M.Var.drewN ?_ _) | (with_reducible refine M.Var.drew ?_) | (with_reducible refine M.Var.far ?_ _ _ ?hFar; case hFar => (first | omega | ((try simp [go_sem]) <;> omega))) | fail))) (by omega) hb
  have q4_n_0 : w4.cell? ⟨w2.heap.size, 0, none⟩ = some (.int .i64 ux) := V4_n.c 0 _ rfl
  have q4_n_1 : w4.cell? ⟨w2.heap.size, 1, none⟩ = some (.int .i64 uy) := V4_n.c 1 _ rfl
  have f4_n := V4_n.2.2
  have L4_n := V4_n.lt
  have N4_n := Nat.ne_of_gt L4_n
  have M4_n := Nat.ne_of_lt L4_n
  clear V3_a f3_a L3_a N3_a M3_a q3_a_0 q3_a_1 q3_a_2 q3_a_3 q3_a_4 q3_a_5 q3_a_6 q3_a_7 V3_b f3_b L3_b N3_b M3_b q3_b_0 q3_b_1 q3_b_2 q3_b_3 q3_b_4 q3_b_5 q3_b_6 q3_b_7 V3_r f3_r L3_r N3_r M3_r q3_r_0 q3_r_1 q3_r_2 V3_d f3_d L3_d N3_d M3_d q3_d_0 q3_d_1 V3_n f3_n L3_n N3_n M3_n q3_n_0 q3_n_1 PC3 c3_pb f3_pb L3_pb N3_pb M3_pb
  have HR4 := Lib.hid hr; clear hr
  have c4_pb := PC4.2.1; have f4_pb := PC4.2.2; have L4_pb := PC4.1; have N4_pb := Nat.ne_of_gt L4_pb; have M4_pb := Nat.ne_of_lt L4_pb
  have HG4 := Lib.hid G4; clear G4 hb
  go_wp2_with (with_reducible refine M.stopPost ?_)
  all_goals skip
  · have h0 : k ≤ 0 := by assumption
    (try refine M.Stop.mk ?_)
    refine bodyPost_ret (v := .tuple #[.agg #[.int .i64 0, .int .i64 0, .int .i64 0], .bool false]) (by first | (simp [results, Try.results133, go_sem, q4_r_0, q4_r_1, q4_r_2, f4_r, L4_r, N4_r, M4_r]; done) | (simp [results, Try.results133, go_sem, *]; done)) rfl ?_
    (try unfold M.RelHb); (try unfold M.RelBB); (try unfold M.RelI); (try unfold M.RelV); exact ⟨⟨0, 0, 0⟩, false, e4, rfl, ⟨z, z, z⟩, (rel_bind HR1.out (rel_bind HR2.out (rel_bind HR3.out (rel_bind HR4.out (by rw [hitR_no h0]; exact rel_ok _ _))))), by have G := HG4.out; (repeat (with_reducible refine M.Below.drewN ?_ _)); go_grown⟩
  · obtain rfl : l = 0 := beq_iff_eq.1 (by assumption)
    have fin : Rel e (ballsX a b) (⟨4294967296, 0, k⟩, true) e4 := by
      by_cases h4 : e4 = 0
      · obtain ⟨h3, p4⟩ := rel_zero HR4.out h4
        obtain ⟨h2, p3⟩ := rel_zero HR3.out h3
        obtain ⟨h1, p2⟩ := rel_zero HR2.out h2
        have hu := unit_zero p2
        obtain ⟨rfl, rfl⟩ := Prod.mk.inj hu
        exact rel_bind HR1.out (rel_bind HR2.out (rel_bind HR3.out (rel_bind HR4.out (by rw [hitR_yes (by omega), if_pos rfl]; exact rel_ok _ _))))
      · exact rel_bind HR1.out (rel_bind HR2.out (rel_bind HR3.out (rel_bind HR4.out (.inl ⟨h4, rfl⟩))))
    have FIN := Lib.hid fin
    clear fin
    (try refine M.Stop.mk ?_)
    refine bodyPost_ret (v := .tuple #[.agg #[.int .i64 4294967296, .int .i64 0, .int .i64 k], .bool true]) (by first | (simp [results, Try.results133, go_sem, q4_r_0, q4_r_1, q4_r_2, f4_r, L4_r, N4_r, M4_r]; done) | (simp [results, Try.results133, go_sem, *]; done)) rfl ?_
    (try unfold M.RelHb); (try unfold M.RelBB); (try unfold M.RelI); (try unfold M.RelV); exact ⟨⟨4294967296, 0, k⟩, true, e4, rfl, ⟨z1, z, ik⟩, FIN.out, by have G := HG4.out; (repeat (with_reducible refine M.Below.drewN ?_ _)); go_grown⟩
  · have h0 : ¬ l = 0 := beq_eq_false_iff_ne.1 (by assumption)
    (try refine M.Stop.mk ?_)
    refine bodyPost_ret (v := .tuple #[.agg #[.int .i64 ux, .int .i64 uy, .int .i64 k], .bool true]) (by first | (simp [results, Try.results133, go_sem, q4_r_0, q4_r_1, q4_r_2, f4_r, L4_r, N4_r, M4_r]; done) | (simp [results, Try.results133, go_sem, *]; done)) rfl ?_
    (try unfold M.RelHb); (try unfold M.RelBB); (try unfold M.RelI); (try unfold M.RelV); exact ⟨⟨ux, uy, k⟩, true, e4, rfl, ⟨iux, iuy, ik⟩, (rel_bind HR1.out (rel_bind HR2.out (rel_bind HR3.out (rel_bind HR4.out (by rw [hitR_yes (by omega), if_neg h0]; exact rel_ok _ _))))), by have G := HG4.out; (repeat (with_reducible refine M.Below.drewN ?_ _)); go_grown⟩
end Go.Proofs.Ytaagpkacningdaa
