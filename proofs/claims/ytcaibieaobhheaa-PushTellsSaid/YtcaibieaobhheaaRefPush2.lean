/- A joint, as the reference reckons it. -/
import Derived.Test.YtcaibieaobhheaaRefPush1
namespace Go.Proofs.Ytcaibieaobhheaa
open Go.RowKit M
set_option maxRecDepth 100000
set_option maxHeartbeats 4000000
set_option linter.unusedVariables false
set_option linter.unusedSimpArgs false
attribute [local go_sem ↓] Go.wp_at_zero Go.wp_at_succ
theorem refJoint_x (pb : Nat) (e : Int) (a b : Bd) (len : Int) (ha : a.ok) (hb : b.ok) (hl : I64 len) (w : World) (hp : PCell w pb e) :
    Calls Try.prog 35 #[.pointer (some ⟨pb, 0, none⟩), .agg #[.int .i64 a.shape, .int .i64 a.sx, .int .i64 a.sy, .int .i64 a.mass, .int .i64 a.px, .int .i64 a.py, .int .i64 a.mx, .int .i64 a.my], .agg #[.int .i64 b.shape, .int .i64 b.sx, .int .i64 b.sy, .int .i64 b.mass, .int .i64 b.px, .int .i64 b.py, .int .i64 b.mx, .int .i64 b.my], .int .i64 len] w (RelBB pb e (jointX a b len) w) := by
  have C1 := Lib.hid (fun e => refLess_x pb e b.px b.py a.px a.py hb.px hb.py ha.px ha.py)
  have C2 := Lib.hid (refUnit_x pb)
  have C3 := Lib.hid (fun e => refLight_x pb e a ha)
  have C4 := Lib.hid (fun e => refLight_x pb e b hb)
  have C5 := Lib.hid (refAdd_x pb)
  have C6 := Lib.hid (fun e => refSpeed_x pb e b hb)
  have C7 := Lib.hid (fun e => refSpeed_x pb e a ha)
  have C8 := Lib.hid (refLess_x pb)
  have C9 := Lib.hid (refDot_x pb)
  have CA := Lib.hid (refSub_x pb)
  have CB := Lib.hid (refMul_x pb)
  have CC := Lib.hid (refDiv_x pb)
  have CD := Lib.hid (refTimes_x pb)
  have CE := Lib.hid (fun e gx gy h1 h2 => refApply_x pb e a b gx gy ha hb h1 h2)
  have z : I64 0 := by unfold I64; omega
  have z8 : I64 34359738368 := by unfold I64; omega
  have HA := Lib.hid ha; have HB := Lib.hid hb
  have hpb : pb < w.heap.size := hp.1; have c0_pb := hp.2.1; have f0_pb := hp.2.2; have PC0 := hp
  have HG0 := Lib.hid (M.rw_refl hp)
  go_enter Try.func35, Try.ntmps35
  go_wp2_with (with_reducible refine M.stopPost ?_)
  (with_reducible refine (C1.out e _ (by (repeat (first | (with_reducible assumption) | (with_reducible refine M.pcell_alloc ?_ _) | (with_reducible refine M.pcell_drewN ?_ _) | (with_reducible refine M.pcell_drew ?_) | (with_reducible refine M.pcell_far ?_ _ _ ?hFar; case hFar => (first | omega | ((try simp [go_sem]) <;> omega))) | fail)))).mono ?_); rintro en w1 ⟨dx, dy, e1, rfl, idx, idy, hr, hb⟩
  have G1 : M.RW pb e1 w w1 := M.rw_step (by have G := HG0.out; (repeat (with_reducible refine M.Below.drewN ?_ _)); go_grown) hb hpb
  have S1 : w.heap.size ≤ w1.heap.size := by have := G1.size; rwa [M.setCell_size] at this
  have PC1 : M.PCell w1 pb e1 := M.pcell_behind hb (e := e) (by (repeat (first | (with_reducible assumption) | (with_reducible refine M.pcell_alloc ?_ _) | (with_reducible refine M.pcell_drewN ?_ _) | (with_reducible refine M.pcell_drew ?_) | (with_reducible refine M.pcell_far ?_ _ _ ?hFar; case hFar => (first | omega | ((try simp [go_sem]) <;> omega))) | fail)))
  have V1_a : M.Var w1 (w.heap.size) #[.int .i64 a.shape, .int .i64 a.sx, .int .i64 a.sy, .int .i64 a.mass, .int .i64 a.px, .int .i64 a.py, .int .i64 a.mx, .int .i64 a.my] := M.var_rw (by (repeat (first | (with_reducible assumption) | (with_reducible apply M.var_set45) | (with_reducible apply M.var_setBd) | (with_reducible apply M.var_setV) | (with_reducible refine M.var_alloc' _ _ _ ?_; first | rfl | (focus (simp [go_sem]; done))) | (with_reducible refine M.Var.alloc ?_ _) | (with_reducible refine M.Var.drewN ?_ _) | (with_reducible refine M.Var.drew ?_) | (with_reducible refine M.Var.far ?_ _ _ ?hFar; case hFar => (first | omega | ((try simp [go_sem]) <;> omega))) | fail))) (by omega) hb
  have q1_a_0 : w1.cell? ⟨w.heap.size, 0, none⟩ = some (.int .i64 a.shape) := V1_a.c 0 _ rfl
  have q1_a_1 : w1.cell? ⟨w.heap.size, 1, none⟩ = some (.int .i64 a.sx) := V1_a.c 1 _ rfl
  have q1_a_2 : w1.cell? ⟨w.heap.size, 2, none⟩ = some (.int .i64 a.sy) := V1_a.c 2 _ rfl
  have q1_a_3 : w1.cell? ⟨w.heap.size, 3, none⟩ = some (.int .i64 a.mass) := V1_a.c 3 _ rfl
  have q1_a_4 : w1.cell? ⟨w.heap.size, 4, none⟩ = some (.int .i64 a.px) := V1_a.c 4 _ rfl
  have q1_a_5 : w1.cell? ⟨w.heap.size, 5, none⟩ = some (.int .i64 a.py) := V1_a.c 5 _ rfl
  have q1_a_6 : w1.cell? ⟨w.heap.size, 6, none⟩ = some (.int .i64 a.mx) := V1_a.c 6 _ rfl
  have q1_a_7 : w1.cell? ⟨w.heap.size, 7, none⟩ = some (.int .i64 a.my) := V1_a.c 7 _ rfl
  have f1_a := V1_a.2.2
  have L1_a := V1_a.lt
  have N1_a := Nat.ne_of_gt L1_a
  have M1_a := Nat.ne_of_lt L1_a
  have V1_b : M.Var w1 (w.heap.size + 1) #[.int .i64 b.shape, .int .i64 b.sx, .int .i64 b.sy, .int .i64 b.mass, .int .i64 b.px, .int .i64 b.py, .int .i64 b.mx, .int .i64 b.my] := M.var_rw (by (repeat (first | (with_reducible assumption) | (with_reducible apply M.var_set45) | (with_reducible apply M.var_setBd) | (with_reducible apply M.var_setV) | (with_reducible refine M.var_alloc' _ _ _ ?_; first | rfl | (focus (simp [go_sem]; done))) | (with_reducible refine M.Var.alloc ?_ _) | (with_reducible refine M.Var.drewN ?_ _) | (with_reducible refine M.Var.drew ?_) | (with_reducible refine M.Var.far ?_ _ _ ?hFar; case hFar => (first | omega | ((try simp [go_sem]) <;> omega))) | fail))) (by omega) hb
  have q1_b_0 : w1.cell? ⟨w.heap.size + 1, 0, none⟩ = some (.int .i64 b.shape) := V1_b.c 0 _ rfl
  have q1_b_1 : w1.cell? ⟨w.heap.size + 1, 1, none⟩ = some (.int .i64 b.sx) := V1_b.c 1 _ rfl
  have q1_b_2 : w1.cell? ⟨w.heap.size + 1, 2, none⟩ = some (.int .i64 b.sy) := V1_b.c 2 _ rfl
  have q1_b_3 : w1.cell? ⟨w.heap.size + 1, 3, none⟩ = some (.int .i64 b.mass) := V1_b.c 3 _ rfl
  have q1_b_4 : w1.cell? ⟨w.heap.size + 1, 4, none⟩ = some (.int .i64 b.px) := V1_b.c 4 _ rfl
  have q1_b_5 : w1.cell? ⟨w.heap.size + 1, 5, none⟩ = some (.int .i64 b.py) := V1_b.c 5 _ rfl
  have q1_b_6 : w1.cell? ⟨w.heap.size + 1, 6, none⟩ = some (.int .i64 b.mx) := V1_b.c 6 _ rfl
  have q1_b_7 : w1.cell? ⟨w.heap.size + 1, 7, none⟩ = some (.int .i64 b.my) := V1_b.c 7 _ rfl
  have f1_b := V1_b.2.2
  have L1_b := V1_b.lt
  have N1_b := Nat.ne_of_gt L1_b
  have M1_b := Nat.ne_of_lt L1_b
  have V1_r : M.Var w1 (w.heap.size + 1 + 1) #[.int .i64 0, .int .i64 0, .int .i64 0, .int .i64 0, .int .i64 0, .int .i64 0, .int .i64 0, .int .i64 0] := M.var_rw (by (repeat (first | (with_reducible assumption) | (with_reducible apply M.var_set45) | (with_reducible apply M.var_setBd) | (with_reducible apply M.var_setV) | (with_reducible refine M.var_alloc' _ _ _ ?_; first | rfl | (focus (simp [go_sem]; done))) | (with_reducible refine M.Var.alloc ?_ _) | (with_reducible refine M.Var.drewN ?_ _) | (with_reducible refine M.Var.drew ?_) | (with_reducible refine M.Var.far ?_ _ _ ?hFar; case hFar => (first | omega | ((try simp [go_sem]) <;> omega))) | fail))) (by omega) hb
  have q1_r_0 : w1.cell? ⟨w.heap.size + 1 + 1, 0, none⟩ = some (.int .i64 0) := V1_r.c 0 _ rfl
  have q1_r_1 : w1.cell? ⟨w.heap.size + 1 + 1, 1, none⟩ = some (.int .i64 0) := V1_r.c 1 _ rfl
  have q1_r_2 : w1.cell? ⟨w.heap.size + 1 + 1, 2, none⟩ = some (.int .i64 0) := V1_r.c 2 _ rfl
  have q1_r_3 : w1.cell? ⟨w.heap.size + 1 + 1, 3, none⟩ = some (.int .i64 0) := V1_r.c 3 _ rfl
  have q1_r_4 : w1.cell? ⟨w.heap.size + 1 + 1, 4, none⟩ = some (.int .i64 0) := V1_r.c 4 _ rfl
  have q1_r_5 : w1.cell? ⟨w.heap.size + 1 + 1, 5, none⟩ = some (.int .i64 0) := V1_r.c 5 _ rfl
  have q1_r_6 : w1.cell? ⟨w.heap.size + 1 + 1, 6, none⟩ = some (.int .i64 0) := V1_r.c 6 _ rfl
  have q1_r_7 : w1.cell? ⟨w.heap.size + 1 + 1, 7, none⟩ = some (.int .i64 0) := V1_r.c 7 _ rfl
  have f1_r := V1_r.2.2
  have L1_r := V1_r.lt
  have N1_r := Nat.ne_of_gt L1_r
  have M1_r := Nat.ne_of_lt L1_r
  have V1_s : M.Var w1 (w.heap.size + 1 + 1 + 1) #[.int .i64 0, .int .i64 0, .int .i64 0, .int .i64 0, .int .i64 0, .int .i64 0, .int .i64 0, .int .i64 0] := M.var_rw (by (repeat (first | (with_reducible assumption) | (with_reducible apply M.var_set45) | (with_reducible apply M.var_setBd) | (with_reducible apply M.var_setV) | (with_reducible refine M.var_alloc' _ _ _ ?_; first | rfl | (focus (simp [go_sem]; done))) | (with_reducible refine M.Var.alloc ?_ _) | (with_reducible refine M.Var.drewN ?_ _) | (with_reducible refine M.Var.drew ?_) | (with_reducible refine M.Var.far ?_ _ _ ?hFar; case hFar => (first | omega | ((try simp [go_sem]) <;> omega))) | fail))) (by omega) hb
  have q1_s_0 : w1.cell? ⟨w.heap.size + 1 + 1 + 1, 0, none⟩ = some (.int .i64 0) := V1_s.c 0 _ rfl
  have q1_s_1 : w1.cell? ⟨w.heap.size + 1 + 1 + 1, 1, none⟩ = some (.int .i64 0) := V1_s.c 1 _ rfl
  have q1_s_2 : w1.cell? ⟨w.heap.size + 1 + 1 + 1, 2, none⟩ = some (.int .i64 0) := V1_s.c 2 _ rfl
  have q1_s_3 : w1.cell? ⟨w.heap.size + 1 + 1 + 1, 3, none⟩ = some (.int .i64 0) := V1_s.c 3 _ rfl
  have q1_s_4 : w1.cell? ⟨w.heap.size + 1 + 1 + 1, 4, none⟩ = some (.int .i64 0) := V1_s.c 4 _ rfl
  have q1_s_5 : w1.cell? ⟨w.heap.size + 1 + 1 + 1, 5, none⟩ = some (.int .i64 0) := V1_s.c 5 _ rfl
  have q1_s_6 : w1.cell? ⟨w.heap.size + 1 + 1 + 1, 6, none⟩ = some (.int .i64 0) := V1_s.c 6 _ rfl
  have q1_s_7 : w1.cell? ⟨w.heap.size + 1 + 1 + 1, 7, none⟩ = some (.int .i64 0) := V1_s.c 7 _ rfl
  have f1_s := V1_s.2.2
  have L1_s := V1_s.lt
  have N1_s := Nat.ne_of_gt L1_s
  have M1_s := Nat.ne_of_lt L1_s
  have HR1 := Lib.hid hr; clear hr
  have c1_pb := PC1.2.1; have f1_pb := PC1.2.2; have L1_pb := PC1.1; have N1_pb := Nat.ne_of_gt L1_pb; have M1_pb := Nat.ne_of_lt L1_pb
  have HG1 := Lib.hid G1; clear G1 hb
  go_wp2_with (with_reducible refine M.stopPost ?_)
  (with_reducible refine (C2.out e1 _ _ idx idy _ (by (repeat (first | (with_reducible assumption) | (with_reducible refine M.pcell_alloc ?_ _) | (with_reducible refine M.pcell_drewN ?_ _) | (with_reducible refine M.pcell_drew ?_) | (with_reducible refine M.pcell_far ?_ _ _ ?hFar; case hFar => (first | omega | ((try simp [go_sem]) <;> omega))) | fail)))).mono ?_); rintro en w2 ⟨nx, ny, l, e2, rfl, inx, iny, il, hr, hb⟩
  have G2 : M.RW pb e2 w w2 := M.rw_step (by have G := HG1.out; (repeat (with_reducible refine M.Below.drewN ?_ _)); go_grown) hb hpb
  have S2 : w.heap.size ≤ w2.heap.size := by have := G2.size; rwa [M.setCell_size] at this
  have PC2 : M.PCell w2 pb e2 := M.pcell_behind hb (e := e1) (by (repeat (first | (with_reducible assumption) | (with_reducible refine M.pcell_alloc ?_ _) | (with_reducible refine M.pcell_drewN ?_ _) | (with_reducible refine M.pcell_drew ?_) | (with_reducible refine M.pcell_far ?_ _ _ ?hFar; case hFar => (first | omega | ((try simp [go_sem]) <;> omega))) | fail)))
  have V2_a : M.Var w2 (w.heap.size) #[.int .i64 a.shape, .int .i64 a.sx, .int .i64 a.sy, .int .i64 a.mass, .int .i64 a.px, .int .i64 a.py, .int .i64 a.mx, .int .i64 a.my] := M.var_rw (by (repeat (first | (with_reducible assumption) | (with_reducible apply M.var_set45) | (with_reducible apply M.var_setBd) | (with_reducible apply M.var_setV) | (with_reducible refine M.var_alloc' _ _ _ ?_; first | rfl | (focus (simp [go_sem]; done))) | (with_reducible refine M.Var.alloc ?_ _) | (with_reducible refine M.Var.drewN ?_ _) | (with_reducible refine M.Var.drew ?_) | (with_reducible refine M.Var.far ?_ _ _ ?hFar; case hFar => (first | omega | ((try simp [go_sem]) <;> omega))) | fail))) (by omega) hb
  have q2_a_0 : w2.cell? ⟨w.heap.size, 0, none⟩ = some (.int .i64 a.shape) := V2_a.c 0 _ rfl
  have q2_a_1 : w2.cell? ⟨w.heap.size, 1, none⟩ = some (.int .i64 a.sx) := V2_a.c 1 _ rfl
  have q2_a_2 : w2.cell? ⟨w.heap.size, 2, none⟩ = some (.int .i64 a.sy) := V2_a.c 2 _ rfl
  have q2_a_3 : w2.cell? ⟨w.heap.size, 3, none⟩ = some (.int .i64 a.mass) := V2_a.c 3 _ rfl
  have q2_a_4 : w2.cell? ⟨w.heap.size, 4, none⟩ = some (.int .i64 a.px) := V2_a.c 4 _ rfl
  have q2_a_5 : w2.cell? ⟨w.heap.size, 5, none⟩ = some (.int .i64 a.py) := V2_a.c 5 _ rfl
  have q2_a_6 : w2.cell? ⟨w.heap.size, 6, none⟩ = some (.int .i64 a.mx) := V2_a.c 6 _ rfl
  have q2_a_7 : w2.cell? ⟨w.heap.size, 7, none⟩ = some (.int .i64 a.my) := V2_a.c 7 _ rfl
  have f2_a := V2_a.2.2
  have L2_a := V2_a.lt
  have N2_a := Nat.ne_of_gt L2_a
  have M2_a := Nat.ne_of_lt L2_a
  have V2_b : M.Var w2 (w.heap.size + 1) #[.int .i64 b.shape, .int .i64 b.sx, .int .i64 b.sy, .int .i64 b.mass, .int .i64 b.px, .int .i64 b.py, .int .i64 b.mx, .int .i64 b.my] := M.var_rw (by (repeat (first | (with_reducible assumption) | (with_reducible apply M.var_set45) | (with_reducible apply M.var_setBd) | (with_reducible apply M.var_setV) | (with_reducible refine M.var_alloc' _ _ _ ?_; first | rfl | (focus (simp [go_sem]; done))) | (with_reducible refine M.Var.alloc ?_ _) | (with_reducible refine M.Var.drewN ?_ _) | (with_reducible refine M.Var.drew ?_) | (with_reducible refine M.Var.far ?_ _ _ ?hFar; case hFar => (first | omega | ((try simp [go_sem]) <;> omega))) | fail))) (by omega) hb
  have q2_b_0 : w2.cell? ⟨w.heap.size + 1, 0, none⟩ = some (.int .i64 b.shape) := V2_b.c 0 _ rfl
  have q2_b_1 : w2.cell? ⟨w.heap.size + 1, 1, none⟩ = some (.int .i64 b.sx) := V2_b.c 1 _ rfl
  have q2_b_2 : w2.cell? ⟨w.heap.size + 1, 2, none⟩ = some (.int .i64 b.sy) := V2_b.c 2 _ rfl
  have q2_b_3 : w2.cell? ⟨w.heap.size + 1, 3, none⟩ = some (.int .i64 b.mass) := V2_b.c 3 _ rfl
  have q2_b_4 : w2.cell? ⟨w.heap.size + 1, 4, none⟩ = some (.int .i64 b.px) := V2_b.c 4 _ rfl
  have q2_b_5 : w2.cell? ⟨w.heap.size + 1, 5, none⟩ = some (.int .i64 b.py) := V2_b.c 5 _ rfl
  have q2_b_6 : w2.cell? ⟨w.heap.size + 1, 6, none⟩ = some (.int .i64 b.mx) := V2_b.c 6 _ rfl
  have q2_b_7 : w2.cell? ⟨w.heap.size + 1, 7, none⟩ = some (.int .i64 b.my) := V2_b.c 7 _ rfl
  have f2_b := V2_b.2.2
  have L2_b := V2_b.lt
  have N2_b := Nat.ne_of_gt L2_b
  have M2_b := Nat.ne_of_lt L2_b
  have V2_r : M.Var w2 (w.heap.size + 1 + 1) #[.int .i64 0, .int .i64 0, .int .i64 0, .int .i64 0, .int .i64 0, .int .i64 0, .int .i64 0, .int .i64 0] := M.var_rw (by (repeat (first | (with_reducible assumption) | (with_reducible apply M.var_set45) | (with_reducible apply M.var_setBd) | (with_reducible apply M.var_setV) | (with_reducible refine M.var_alloc' _ _ _ ?_; first | rfl | (focus (simp [go_sem]; done))) | (with_reducible refine M.Var.alloc ?_ _) | (with_reducible refine M.Var.drewN ?_ _) | (with_reducible refine M.Var.drew ?_) | (with_reducible refine M.Var.far ?_ _ _ ?hFar; case hFar => (first | omega | ((try simp [go_sem]) <;> omega))) | fail))) (by omega) hb
  have q2_r_0 : w2.cell? ⟨w.heap.size + 1 + 1, 0, none⟩ = some (.int .i64 0) := V2_r.c 0 _ rfl
  have q2_r_1 : w2.cell? ⟨w.heap.size + 1 + 1, 1, none⟩ = some (.int .i64 0) := V2_r.c 1 _ rfl
  have q2_r_2 : w2.cell? ⟨w.heap.size + 1 + 1, 2, none⟩ = some (.int .i64 0) := V2_r.c 2 _ rfl
  have q2_r_3 : w2.cell? ⟨w.heap.size + 1 + 1, 3, none⟩ = some (.int .i64 0) := V2_r.c 3 _ rfl
  have q2_r_4 : w2.cell? ⟨w.heap.size + 1 + 1, 4, none⟩ = some (.int .i64 0) := V2_r.c 4 _ rfl
  have q2_r_5 : w2.cell? ⟨w.heap.size + 1 + 1, 5, none⟩ = some (.int .i64 0) := V2_r.c 5 _ rfl
  have q2_r_6 : w2.cell? ⟨w.heap.size + 1 + 1, 6, none⟩ = some (.int .i64 0) := V2_r.c 6 _ rfl
  have q2_r_7 : w2.cell? ⟨w.heap.size + 1 + 1, 7, none⟩ = some (.int .i64 0) := V2_r.c 7 _ rfl
  have f2_r := V2_r.2.2
  have L2_r := V2_r.lt
  have N2_r := Nat.ne_of_gt L2_r
  have M2_r := Nat.ne_of_lt L2_r
  have V2_s : M.Var w2 (w.heap.size + 1 + 1 + 1) #[.int .i64 0, .int .i64 0, .int .i64 0, .int .i64 0, .int .i64 0, .int .i64 0, .int .i64 0, .int .i64 0] := M.var_rw (by (repeat (first | (with_reducible assumption) | (with_reducible apply M.var_set45) | (with_reducible apply M.var_setBd) | (with_reducible apply M.var_setV) | (with_reducible refine M.var_alloc' _ _ _ ?_; first | rfl | (focus (simp [go_sem]; done))) | (with_reducible refine M.Var.alloc ?_ _) | (with_reducible refine M.Var.drewN ?_ _) | (with_reducible refine M.Var.drew ?_) | (with_reducible refine M.Var.far ?_ _ _ ?hFar; case hFar => (first | omega | ((try simp [go_sem]) <;> omega))) | fail))) (by omega) hb
  have q2_s_0 : w2.cell? ⟨w.heap.size + 1 + 1 + 1, 0, none⟩ = some (.int .i64 0) := V2_s.c 0 _ rfl
  have q2_s_1 : w2.cell? ⟨w.heap.size + 1 + 1 + 1, 1, none⟩ = some (.int .i64 0) := V2_s.c 1 _ rfl
  have q2_s_2 : w2.cell? ⟨w.heap.size + 1 + 1 + 1, 2, none⟩ = some (.int .i64 0) := V2_s.c 2 _ rfl
  have q2_s_3 : w2.cell? ⟨w.heap.size + 1 + 1 + 1, 3, none⟩ = some (.int .i64 0) := V2_s.c 3 _ rfl
  have q2_s_4 : w2.cell? ⟨w.heap.size + 1 + 1 + 1, 4, none⟩ = some (.int .i64 0) := V2_s.c 4 _ rfl
  have q2_s_5 : w2.cell? ⟨w.heap.size + 1 + 1 + 1, 5, none⟩ = some (.int .i64 0) := V2_s.c 5 _ rfl
  have q2_s_6 : w2.cell? ⟨w.heap.size + 1 + 1 + 1, 6, none⟩ = some (.int .i64 0) := V2_s.c 6 _ rfl
  have q2_s_7 : w2.cell? ⟨w.heap.size + 1 + 1 + 1, 7, none⟩ = some (.int .i64 0) := V2_s.c 7 _ rfl
  have f2_s := V2_s.2.2
  have L2_s := V2_s.lt
  have N2_s := Nat.ne_of_gt L2_s
  have M2_s := Nat.ne_of_lt L2_s
  clear V1_a f1_a L1_a N1_a M1_a q1_a_0 q1_a_1 q1_a_2 q1_a_3 q1_a_4 q1_a_5 q1_a_6 q1_a_7 V1_b f1_b L1_b N1_b M1_b q1_b_0 q1_b_1 q1_b_2 q1_b_3 q1_b_4 q1_b_5 q1_b_6 q1_b_7 V1_r f1_r L1_r N1_r M1_r q1_r_0 q1_r_1 q1_r_2 q1_r_3 q1_r_4 q1_r_5 q1_r_6 q1_r_7 V1_s f1_s L1_s N1_s M1_s q1_s_0 q1_s_1 q1_s_2 q1_s_3 q1_s_4 q1_s_5 q1_s_6 q1_s_7 PC1 c1_pb f1_pb L1_pb N1_pb M1_pb
  have HR2 := Lib.hid hr; clear hr
  have c2_pb := PC2.2.1; have f2_pb := PC2.2.2; have L2_pb := PC2.1; have N2_pb := Nat.ne_of_gt L2_pb; have M2_pb := Nat.ne_of_lt L2_pb
  have HG2 := Lib.hid G2; clear G2 hb
  go_wp2_with (with_reducible refine M.stopPost ?_)
  · have h0 : l = 0 := beq_iff_eq.1 (by assumption)
    go_region_held2 (fun w' => w'.cell? ⟨w.heap.size, 0, none⟩ = some (.int .i64 a.shape) ∧ w'.cell? ⟨w.heap.size, 1, none⟩ = some (.int .i64 a.sx) ∧ w'.cell? ⟨w.heap.size, 2, none⟩ = some (.int .i64 a.sy) ∧ w'.cell? ⟨w.heap.size, 3, none⟩ = some (.int .i64 a.mass) ∧ w'.cell? ⟨w.heap.size, 4, none⟩ = some (.int .i64 a.px) ∧ w'.cell? ⟨w.heap.size, 5, none⟩ = some (.int .i64 a.py) ∧ w'.cell? ⟨w.heap.size, 6, none⟩ = some (.int .i64 a.mx) ∧ w'.cell? ⟨w.heap.size, 7, none⟩ = some (.int .i64 a.my) ∧ w'.cell? ⟨w.heap.size + 1, 0, none⟩ = some (.int .i64 b.shape) ∧ w'.cell? ⟨w.heap.size + 1, 1, none⟩ = some (.int .i64 b.sx) ∧ w'.cell? ⟨w.heap.size + 1, 2, none⟩ = some (.int .i64 b.sy) ∧ w'.cell? ⟨w.heap.size + 1, 3, none⟩ = some (.int .i64 b.mass) ∧ w'.cell? ⟨w.heap.size + 1, 4, none⟩ = some (.int .i64 b.px) ∧ w'.cell? ⟨w.heap.size + 1, 5, none⟩ = some (.int .i64 b.py) ∧ w'.cell? ⟨w.heap.size + 1, 6, none⟩ = some (.int .i64 b.mx) ∧ w'.cell? ⟨w.heap.size + 1, 7, none⟩ = some (.int .i64 b.my)) (first | (go_keep; done) | (simp [*, go_sem, World.cell?_alloc_some, World.cell?_setCell_far]; done))
      (fail)
    all_goals go_wp2_with (with_reducible refine M.stopPost ?_)
    (try refine M.Stop.mk ?_)
    refine bodyPost_ret (v := .tuple #[.agg #[.int .i64 a.shape, .int .i64 a.sx, .int .i64 a.sy, .int .i64 a.mass, .int .i64 a.px, .int .i64 a.py, .int .i64 a.mx, .int .i64 a.my], .agg #[.int .i64 b.shape, .int .i64 b.sx, .int .i64 b.sy, .int .i64 b.mass, .int .i64 b.px, .int .i64 b.py, .int .i64 b.mx, .int .i64 b.my]]) (by first | (simp [results, Try.results35, go_sem, q2_r_0, q2_r_1, q2_r_2, q2_r_3, q2_r_4, q2_r_5, q2_r_6, q2_r_7, f2_r, L2_r, N2_r, M2_r, q2_s_0, q2_s_1, q2_s_2, q2_s_3, q2_s_4, q2_s_5, q2_s_6, q2_s_7, f2_s, L2_s, N2_s, M2_s]; done) | (simp [results, Try.results35, go_sem, *]; done)) rfl ?_
    (try unfold M.RelHb); (try unfold M.RelBB); (try unfold M.RelI); (try unfold M.RelV); exact ⟨a, b, e2, rfl, HA.out, HB.out, (rel_bind HR1.out (rel_bind HR2.out (by (try dsimp only); rw [if_pos h0]; exact rel_ok _ _))), by have G := HG2.out; (repeat (with_reducible refine M.Below.drewN ?_ _)); go_grown⟩
  · have h0 : ¬ l = 0 := beq_eq_false_iff_ne.1 (by assumption)
    (with_reducible refine (C3.out e2 _ (by (repeat (first | (with_reducible assumption) | (with_reducible refine M.pcell_alloc ?_ _) | (with_reducible refine M.pcell_drewN ?_ _) | (with_reducible refine M.pcell_drew ?_) | (with_reducible refine M.pcell_far ?_ _ _ ?hFar; case hFar => (first | omega | ((try simp [go_sem]) <;> omega))) | fail)))).mono ?_); rintro en w3 ⟨la, e3, rfl, ila, hr, hb⟩
    have G3 : M.RW pb e3 w w3 := M.rw_step (by have G := HG2.out; (repeat (with_reducible refine M.Below.drewN ?_ _)); go_grown) hb hpb
    have S3 : w.heap.size ≤ w3.heap.size := by have := G3.size; rwa [M.setCell_size] at this
    have PC3 : M.PCell w3 pb e3 := M.pcell_behind hb (e := e2) (by (repeat (first | (with_reducible assumption) | (with_reducible refine M.pcell_alloc ?_ _) | (with_reducible refine M.pcell_drewN ?_ _) | (with_reducible refine M.pcell_drew ?_) | (with_reducible refine M.pcell_far ?_ _ _ ?hFar; case hFar => (first | omega | ((try simp [go_sem]) <;> omega))) | fail)))
    have V3_a : M.Var w3 (w.heap.size) #[.int .i64 a.shape, .int .i64 a.sx, .int .i64 a.sy, .int .i64 a.mass, .int .i64 a.px, .int .i64 a.py, .int .i64 a.mx, .int .i64 a.my] := M.var_rw (by (repeat (first | (with_reducible assumption) | (with_reducible apply M.var_set45) | (with_reducible apply M.var_setBd) | (with_reducible apply M.var_setV) | (with_reducible refine M.var_alloc' _ _ _ ?_; first | rfl | (focus (simp [go_sem]; done))) | (with_reducible refine M.Var.alloc ?_ _) | (with_reducible refine M.Var.drewN ?_ _) | (with_reducible refine M.Var.drew ?_) | (with_reducible refine M.Var.far ?_ _ _ ?hFar; case hFar => (first | omega | ((try simp [go_sem]) <;> omega))) | fail))) (by omega) hb
    have q3_a_0 : w3.cell? ⟨w.heap.size, 0, none⟩ = some (.int .i64 a.shape) := V3_a.c 0 _ rfl
    have q3_a_1 : w3.cell? ⟨w.heap.size, 1, none⟩ = some (.int .i64 a.sx) := V3_a.c 1 _ rfl
    have q3_a_2 : w3.cell? ⟨w.heap.size, 2, none⟩ = some (.int .i64 a.sy) := V3_a.c 2 _ rfl
    have q3_a_3 : w3.cell? ⟨w.heap.size, 3, none⟩ = some (.int .i64 a.mass) := V3_a.c 3 _ rfl
    have q3_a_4 : w3.cell? ⟨w.heap.size, 4, none⟩ = some (.int .i64 a.px) := V3_a.c 4 _ rfl
    have q3_a_5 : w3.cell? ⟨w.heap.size, 5, none⟩ = some (.int .i64 a.py) := V3_a.c 5 _ rfl
    have q3_a_6 : w3.cell? ⟨w.heap.size, 6, none⟩ = some (.int .i64 a.mx) := V3_a.c 6 _ rfl
    have q3_a_7 : w3.cell? ⟨w.heap.size, 7, none⟩ = some (.int .i64 a.my) := V3_a.c 7 _ rfl
    have f3_a := V3_a.2.2
    have L3_a := V3_a.lt
    have N3_a := Nat.ne_of_gt L3_a
    have M3_a := Nat.ne_of_lt L3_a
    have V3_b : M.Var w3 (w.heap.size + 1) #[.int .i64 b.shape, .int .i64 b.sx, .int .i64 b.sy, .int .i64 b.mass, .int .i64 b.px, .int .i64 b.py, .int .i64 b.mx, .int .i64 b.my] := M.var_rw (by (repeat (first | (with_reducible assumption) | (with_reducible apply M.var_set45) | (with_reducible apply M.var_setBd) | (with_reducible apply M.var_setV) | (with_reducible refine M.var_alloc' _ _ _ ?_; first | rfl | (focus (simp [go_sem]; done))) | (with_reducible refine M.Var.alloc ?_ _) | (with_reducible refine M.Var.drewN ?_ _) | (with_reducible refine M.Var.drew ?_) | (with_reducible refine M.Var.far ?_ _ _ ?hFar; case hFar => (first | omega | ((try simp [go_sem]) <;> omega))) | fail))) (by omega) hb
    have q3_b_0 : w3.cell? ⟨w.heap.size + 1, 0, none⟩ = some (.int .i64 b.shape) := V3_b.c 0 _ rfl
    have q3_b_1 : w3.cell? ⟨w.heap.size + 1, 1, none⟩ = some (.int .i64 b.sx) := V3_b.c 1 _ rfl
    have q3_b_2 : w3.cell? ⟨w.heap.size + 1, 2, none⟩ = some (.int .i64 b.sy) := V3_b.c 2 _ rfl
    have q3_b_3 : w3.cell? ⟨w.heap.size + 1, 3, none⟩ = some (.int .i64 b.mass) := V3_b.c 3 _ rfl
    have q3_b_4 : w3.cell? ⟨w.heap.size + 1, 4, none⟩ = some (.int .i64 b.px) := V3_b.c 4 _ rfl
    have q3_b_5 : w3.cell? ⟨w.heap.size + 1, 5, none⟩ = some (.int .i64 b.py) := V3_b.c 5 _ rfl
    have q3_b_6 : w3.cell? ⟨w.heap.size + 1, 6, none⟩ = some (.int .i64 b.mx) := V3_b.c 6 _ rfl
    have q3_b_7 : w3.cell? ⟨w.heap.size + 1, 7, none⟩ = some (.int .i64 b.my) := V3_b.c 7 _ rfl
    have f3_b := V3_b.2.2
    have L3_b := V3_b.lt
    have N3_b := Nat.ne_of_gt L3_b
    have M3_b := Nat.ne_of_lt L3_b
    have V3_r : M.Var w3 (w.heap.size + 1 + 1) #[.int .i64 0, .int .i64 0, .int .i64 0, .int .i64 0, .int .i64 0, .int .i64 0, .int .i64 0, .int .i64 0] := M.var_rw (by (repeat (first | (with_reducible assumption) | (with_reducible apply M.var_set45) | (with_reducible apply M.var_setBd) | (with_reducible apply M.var_setV) | (with_reducible refine M.var_alloc' _ _ _ ?_; first | rfl | (focus (simp [go_sem]; done))) | (with_reducible refine M.Var.alloc ?_ _) | (with_reducible refine M.Var.drewN ?_ _) | (with_reducible refine M.Var.drew ?_) | (with_reducible refine M.Var.far ?_ _ _ ?hFar; case hFar => (first | omega | ((try simp [go_sem]) <;> omega))) | fail))) (by omega) hb
    have q3_r_0 : w3.cell? ⟨w.heap.size + 1 + 1, 0, none⟩ = some (.int .i64 0) := V3_r.c 0 _ rfl
    have q3_r_1 : w3.cell? ⟨w.heap.size + 1 + 1, 1, none⟩ = some (.int .i64 0) := V3_r.c 1 _ rfl
    have q3_r_2 : w3.cell? ⟨w.heap.size + 1 + 1, 2, none⟩ = some (.int .i64 0) := V3_r.c 2 _ rfl
    have q3_r_3 : w3.cell? ⟨w.heap.size + 1 + 1, 3, none⟩ = some (.int .i64 0) := V3_r.c 3 _ rfl
    have q3_r_4 : w3.cell? ⟨w.heap.size + 1 + 1, 4, none⟩ = some (.int .i64 0) := V3_r.c 4 _ rfl
    have q3_r_5 : w3.cell? ⟨w.heap.size + 1 + 1, 5, none⟩ = some (.int .i64 0) := V3_r.c 5 _ rfl
    have q3_r_6 : w3.cell? ⟨w.heap.size + 1 + 1, 6, none⟩ = some (.int .i64 0) := V3_r.c 6 _ rfl
    have q3_r_7 : w3.cell? ⟨w.heap.size + 1 + 1, 7, none⟩ = some (.int .i64 0) := V3_r.c 7 _ rfl
    have f3_r := V3_r.2.2
    have L3_r := V3_r.lt
    have N3_r := Nat.ne_of_gt L3_r
    have M3_r := Nat.ne_of_lt L3_r
    have V3_s : M.Var w3 (w.heap.size + 1 + 1 + 1) #[.int .i64 0, .int .i64 0, .int .i64 0, .int .i64 0, .int .i64 0, .int .i64 0, .int .i64 0, .int .i64 0] := M.var_rw (by (repeat (first | (with_reducible assumption) | (with_reducible apply M.var_set45) | (with_reducible apply M.var_setBd) | (with_reducible apply M.var_setV) | (with_reducible refine M.var_alloc' _ _ _ ?_; first | rfl | (focus (simp [go_sem]; done))) | (with_reducible refine M.Var.alloc ?_ _) | (with_reducible refine M.Var.drewN ?_ _) | (with_reducible refine M.Var.drew ?_) | (with_reducible refine M.Var.far ?_ _ _ ?hFar; case hFar => (first | omega | ((try simp [go_sem]) <;> omega))) | fail))) (by omega) hb
    have q3_s_0 : w3.cell? ⟨w.heap.size + 1 + 1 + 1, 0, none⟩ = some (.int .i64 0) := V3_s.c 0 _ rfl
    have q3_s_1 : w3.cell? ⟨w.heap.size + 1 + 1 + 1, 1, none⟩ = some (.int .i64 0) := V3_s.c 1 _ rfl
    have q3_s_2 : w3.cell? ⟨w.heap.size + 1 + 1 + 1, 2, none⟩ = some (.int .i64 0) := V3_s.c 2 _ rfl
    have q3_s_3 : w3.cell? ⟨w.heap.size + 1 + 1 + 1, 3, none⟩ = some (.int .i64 0) := V3_s.c 3 _ rfl
    have q3_s_4 : w3.cell? ⟨w.heap.size + 1 + 1 + 1, 4, none⟩ = some (.int .i64 0) := V3_s.c 4 _ rfl
    have q3_s_5 : w3.cell? ⟨w.heap.size + 1 + 1 + 1, 5, none⟩ = some (.int .i64 0) := V3_s.c 5 _ rfl
    have q3_s_6 : w3.cell? ⟨w.heap.size + 1 + 1 + 1, 6, none⟩ = some (.int .i64 0) := V3_s.c 6 _ rfl
    have q3_s_7 : w3.cell? ⟨w.heap.size + 1 + 1 + 1, 7, none⟩ = some (.int .i64 0) := V3_s.c 7 _ rfl
    have f3_s := V3_s.2.2
    have L3_s := V3_s.lt
    have N3_s := Nat.ne_of_gt L3_s
    have M3_s := Nat.ne_of_lt L3_s
    have V3_n : M.Var w3 (w2.heap.size) #[.int .i64 nx, .int .i64 ny] := M.var_rw (by (repeat (first | (with_reducible assumption) | (with_reducible apply M.var_set45) | (with_reducible apply M.var_setBd) | (with_reducible apply M.var_setV) | (with_reducible refine M.var_alloc' _ _ _ ?_; first | rfl | (focus (simp [go_sem]; done))) | (with_reducible refine M.Var.alloc ?_ _) | (with_reducible refine M.Var.drewN ?_ _) | (with_reducible refine M.Var.drew ?_) | (with_reducible refine M.Var.far ?_ _ _ ?hFar; case hFar => (first | omega | ((try simp [go_sem]) <;> omega))) | fail))) (by omega) hb
    have q3_n_0 : w3.cell? ⟨w2.heap.size, 0, none⟩ = some (.int .i64 nx) := V3_n.c 0 _ rfl
    have q3_n_1 : w3.cell? ⟨w2.heap.size, 1, none⟩ = some (.int .i64 ny) := V3_n.c 1 _ rfl
    have f3_n := V3_n.2.2
    have L3_n := V3_n.lt
    have N3_n := Nat.ne_of_gt L3_n
    have M3_n := Nat.ne_of_lt L3_n
    clear V2_a f2_a q2_a_0 q2_a_1 q2_a_2 q2_a_3 q2_a_4 q2_a_5 q2_a_6 q2_a_7 V2_b f2_b q2_b_0 q2_b_1 q2_b_2 q2_b_3 q2_b_4 q2_b_5 q2_b_6 q2_b_7 V2_r f2_r q2_r_0 q2_r_1 q2_r_2 q2_r_3 q2_r_4 q2_r_5 q2_r_6 q2_r_7 V2_s f2_s q2_s_0 q2_s_1 q2_s_2 q2_s_3 q2_s_4 q2_s_5 q2_s_6 q2_s_7 PC2 c2_pb f2_pb
    have HR3 := Lib.hid hr; clear hr
    have c3_pb := PC3.2.1; have f3_pb := PC3.2.2; have L3_pb := PC3.1; have N3_pb := Nat.ne_of_gt L3_pb; have M3_pb := Nat.ne_of_lt L3_pb
    have HG3 := Lib.hid G3; clear G3 hb
    go_wp2_with (with_reducible refine M.stopPost ?_)
    (with_reducible refine (C4.out e3 _ (by (repeat (first | (with_reducible assumption) | (with_reducible refine M.pcell_alloc ?_ _) | (with_reducible refine M.pcell_drewN ?_ _) | (with_reducible refine M.pcell_drew ?_) | (with_reducible refine M.pcell_far ?_ _ _ ?hFar; case hFar => (first | omega | ((try simp [go_sem]) <;> omega))) | fail)))).mono ?_); rintro en w4 ⟨lb, e4, rfl, ilb, hr, hb⟩
    have G4 : M.RW pb e4 w w4 := M.rw_step (by have G := HG3.out; (repeat (with_reducible refine M.Below.drewN ?_ _)); go_grown) hb hpb
    have S4 : w.heap.size ≤ w4.heap.size := by have := G4.size; rwa [M.setCell_size] at this
    have PC4 : M.PCell w4 pb e4 := M.pcell_behind hb (e := e3) (by (repeat (first | (with_reducible assumption) | (with_reducible refine M.pcell_alloc ?_ _) | (with_reducible refine M.pcell_drewN ?_ _) | (with_reducible refine M.pcell_drew ?_) | (with_reducible refine M.pcell_far ?_ _ _ ?hFar; case hFar => (first | omega | ((try simp [go_sem]) <;> omega))) | fail)))
    have V4_a : M.Var w4 (w.heap.size) #[.int .i64 a.shape, .int .i64 a.sx, .int .i64 a.sy, .int .i64 a.mass, .int .i64 a.px, .int .i64 a.py, .int .i64 a.mx, .int .i64 a.my] := M.var_rw (by (repeat (first | (with_reducible assumption) | (with_reducible apply M.var_set45) | (with_reducible apply M.var_setBd) | (with_reducible apply M.var_setV) | (with_reducible refine M.var_alloc' _ _ _ ?_; first | rfl | (focus (simp [go_sem]; done))) | (with_reducible refine M.Var.alloc ?_ _) | (with_reducible refine M.Var.drewN ?_ _) | (with_reducible refine M.Var.drew ?_) | (with_reducible refine M.Var.far ?_ _ _ ?hFar; case hFar => (first | omega | ((try simp [go_sem]) <;> omega))) | fail))) (by omega) hb
    have q4_a_0 : w4.cell? ⟨w.heap.size, 0, none⟩ = some (.int .i64 a.shape) := V4_a.c 0 _ rfl
    have q4_a_1 : w4.cell? ⟨w.heap.size, 1, none⟩ = some (.int .i64 a.sx) := V4_a.c 1 _ rfl
    have q4_a_2 : w4.cell? ⟨w.heap.size, 2, none⟩ = some (.int .i64 a.sy) := V4_a.c 2 _ rfl
    have q4_a_3 : w4.cell? ⟨w.heap.size, 3, none⟩ = some (.int .i64 a.mass) := V4_a.c 3 _ rfl
    have q4_a_4 : w4.cell? ⟨w.heap.size, 4, none⟩ = some (.int .i64 a.px) := V4_a.c 4 _ rfl
    have q4_a_5 : w4.cell? ⟨w.heap.size, 5, none⟩ = some (.int .i64 a.py) := V4_a.c 5 _ rfl
    have q4_a_6 : w4.cell? ⟨w.heap.size, 6, none⟩ = some (.int .i64 a.mx) := V4_a.c 6 _ rfl
    have q4_a_7 : w4.cell? ⟨w.heap.size, 7, none⟩ = some (.int .i64 a.my) := V4_a.c 7 _ rfl
    have f4_a := V4_a.2.2
    have L4_a := V4_a.lt
    have N4_a := Nat.ne_of_gt L4_a
    have M4_a := Nat.ne_of_lt L4_a
    have V4_b : M.Var w4 (w.heap.size + 1) #[.int .i64 b.shape, .int .i64 b.sx, .int .i64 b.sy, .int .i64 b.mass, .int .i64 b.px, .int .i64 b.py, .int .i64 b.mx, .int .i64 b.my] := M.var_rw (by (repeat (first | (with_reducible assumption) | (with_reducible apply M.var_set45) | (with_reducible apply M.var_setBd) | (with_reducible apply M.var_setV) | (with_reducible refine M.var_alloc' _ _ _ ?_; first | rfl | (focus (simp [go_sem]; done))) | (with_reducible refine M.Var.alloc ?_ _) | (with_reducible refine M.Var.drewN ?_ _) | (with_reducible refine M.Var.drew ?_) | (with_reducible refine M.Var.far ?_ _ _ ?hFar; case hFar => (first | omega | ((try simp [go_sem]) <;> omega))) | fail))) (by omega) hb
    have q4_b_0 : w4.cell? ⟨w.heap.size + 1, 0, none⟩ = some (.int .i64 b.shape) := V4_b.c 0 _ rfl
    have q4_b_1 : w4.cell? ⟨w.heap.size + 1, 1, none⟩ = some (.int .i64 b.sx) := V4_b.c 1 _ rfl
    have q4_b_2 : w4.cell? ⟨w.heap.size + 1, 2, none⟩ = some (.int .i64 b.sy) := V4_b.c 2 _ rfl
    have q4_b_3 : w4.cell? ⟨w.heap.size + 1, 3, none⟩ = some (.int .i64 b.mass) := V4_b.c 3 _ rfl
    have q4_b_4 : w4.cell? ⟨w.heap.size + 1, 4, none⟩ = some (.int .i64 b.px) := V4_b.c 4 _ rfl
    have q4_b_5 : w4.cell? ⟨w.heap.size + 1, 5, none⟩ = some (.int .i64 b.py) := V4_b.c 5 _ rfl
    have q4_b_6 : w4.cell? ⟨w.heap.size + 1, 6, none⟩ = some (.int .i64 b.mx) := V4_b.c 6 _ rfl
    have q4_b_7 : w4.cell? ⟨w.heap.size + 1, 7, none⟩ = some (.int .i64 b.my) := V4_b.c 7 _ rfl
    have f4_b := V4_b.2.2
    have L4_b := V4_b.lt
    have N4_b := Nat.ne_of_gt L4_b
    have M4_b := Nat.ne_of_lt L4_b
    have V4_r : M.Var w4 (w.heap.size + 1 + 1) #[.int .i64 0, .int .i64 0, .int .i64 0, .int .i64 0, .int .i64 0, .int .i64 0, .int .i64 0, .int .i64 0] := M.var_rw (by (repeat (first | (with_reducible assumption) | (with_reducible apply M.var_set45) | (with_reducible apply M.var_setBd) | (with_reducible apply M.var_setV) | (with_reducible refine M.var_alloc' _ _ _ ?_; first | rfl | (focus (simp [go_sem]; done))) | (with_reducible refine M.Var.alloc ?_ _) | (with_reducible refine M.Var.drewN ?_ _) | (with_reducible refine M.Var.drew ?_) | (with_reducible refine M.Var.far ?_ _ _ ?hFar; case hFar => (first | omega | ((try simp [go_sem]) <;> omega))) | fail))) (by omega) hb
    have q4_r_0 : w4.cell? ⟨w.heap.size + 1 + 1, 0, none⟩ = some (.int .i64 0) := V4_r.c 0 _ rfl
    have q4_r_1 : w4.cell? ⟨w.heap.size + 1 + 1, 1, none⟩ = some (.int .i64 0) := V4_r.c 1 _ rfl
    have q4_r_2 : w4.cell? ⟨w.heap.size + 1 + 1, 2, none⟩ = some (.int .i64 0) := V4_r.c 2 _ rfl
    have q4_r_3 : w4.cell? ⟨w.heap.size + 1 + 1, 3, none⟩ = some (.int .i64 0) := V4_r.c 3 _ rfl
    have q4_r_4 : w4.cell? ⟨w.heap.size + 1 + 1, 4, none⟩ = some (.int .i64 0) := V4_r.c 4 _ rfl
    have q4_r_5 : w4.cell? ⟨w.heap.size + 1 + 1, 5, none⟩ = some (.int .i64 0) := V4_r.c 5 _ rfl
    have q4_r_6 : w4.cell? ⟨w.heap.size + 1 + 1, 6, none⟩ = some (.int .i64 0) := V4_r.c 6 _ rfl
    have q4_r_7 : w4.cell? ⟨w.heap.size + 1 + 1, 7, none⟩ = some (.int .i64 0) := V4_r.c 7 _ rfl
    have f4_r := V4_r.2.2
    have L4_r := V4_r.lt
    have N4_r := Nat.ne_of_gt L4_r
    have M4_r := Nat.ne_of_lt L4_r
    have V4_s : M.Var w4 (w.heap.size + 1 + 1 + 1) #[.int .i64 0, .int .i64 0, .int .i64 0, .int .i64 0, .int .i64 0, .int .i64 0, .int .i64 0, .int .i64 0] := M.var_rw (by (repeat (first | (with_reducible assumption) | (with_reducible apply M.var_set45) | (with_reducible apply M.var_setBd) | (with_reducible apply M.var_setV) | (with_reducible refine M.var_alloc' _ _ _ ?_; first | rfl | (focus (simp [go_sem]; done))) | (with_reducible refine M.Var.alloc ?_ _) | (with_reducible refine M.Var.drewN ?_ _) | (with_reducible refine M.Var.drew ?_) | (with_reducible refine M.Var.far ?_ _ _ ?hFar; case hFar => (first | omega | ((try simp [go_sem]) <;> omega))) | fail))) (by omega) hb
    have q4_s_0 : w4.cell? ⟨w.heap.size + 1 + 1 + 1, 0, none⟩ = some (.int .i64 0) := V4_s.c 0 _ rfl
    have q4_s_1 : w4.cell? ⟨w.heap.size + 1 + 1 + 1, 1, none⟩ = some (.int .i64 0) := V4_s.c 1 _ rfl
    have q4_s_2 : w4.cell? ⟨w.heap.size + 1 + 1 + 1, 2, none⟩ = some (.int .i64 0) := V4_s.c 2 _ rfl
    have q4_s_3 : w4.cell? ⟨w.heap.size + 1 + 1 + 1, 3, none⟩ = some (.int .i64 0) := V4_s.c 3 _ rfl
    have q4_s_4 : w4.cell? ⟨w.heap.size + 1 + 1 + 1, 4, none⟩ = some (.int .i64 0) := V4_s.c 4 _ rfl
    have q4_s_5 : w4.cell? ⟨w.heap.size + 1 + 1 + 1, 5, none⟩ = some (.int .i64 0) := V4_s.c 5 _ rfl
    have q4_s_6 : w4.cell? ⟨w.heap.size + 1 + 1 + 1, 6, none⟩ = some (.int .i64 0) := V4_s.c 6 _ rfl
    have q4_s_7 : w4.cell? ⟨w.heap.size + 1 + 1 + 1, 7, none⟩ = some (.int .i64 0) := V4_s.c 7 _ rfl
    have f4_s := V4_s.2.2
    have L4_s := V4_s.lt
    have N4_s := Nat.ne_of_gt L4_s
    have M4_s := Nat.ne_of_lt L4_s
    have V4_n : M.Var w4 (w2.heap.size) #[.int .i64 nx, .int .i64 ny] := M.var_rw (by (repeat (first | (with_reducible assumption) | (with_reducible apply M.var_set45) | (with_reducible apply M.var_setBd) | (with_reducible apply M.var_setV) | (with_reducible refine M.var_alloc' _ _ _ ?_; first | rfl | (focus (simp [go_sem]; done))) | (with_reducible refine M.Var.alloc ?_ _) | (with_reducible refine M.Var.drewN ?_ _) | (with_reducible refine M.Var.drew ?_) | (with_reducible refine M.Var.far ?_ _ _ ?hFar; case hFar => (first | omega | ((try simp [go_sem]) <;> omega))) | fail))) (by omega) hb
    have q4_n_0 : w4.cell? ⟨w2.heap.size, 0, none⟩ = some (.int .i64 nx) := V4_n.c 0 _ rfl
    have q4_n_1 : w4.cell? ⟨w2.heap.size, 1, none⟩ = some (.int .i64 ny) := V4_n.c 1 _ rfl
    have f4_n := V4_n.2.2
    have L4_n := V4_n.lt
    have N4_n := Nat.ne_of_gt L4_n
    have M4_n := Nat.ne_of_lt L4_n
    clear V3_a f3_a L3_a N3_a M3_a q3_a_0 q3_a_1 q3_a_2 q3_a_3 q3_a_4 q3_a_5 q3_a_6 q3_a_7 V3_b f3_b L3_b N3_b M3_b q3_b_0 q3_b_1 q3_b_2 q3_b_3 q3_b_4 q3_b_5 q3_b_6 q3_b_7 V3_r f3_r L3_r N3_r M3_r q3_r_0 q3_r_1 q3_r_2 q3_r_3 q3_r_4 q3_r_5 q3_r_6 q3_r_7 V3_s f3_s L3_s N3_s M3_s q3_s_0 q3_s_1 q3_s_2 q3_s_3 q3_s_4 q3_s_5 q3_s_6 q3_s_7 V3_n f3_n L3_n N3_n M3_n q3_n_0 q3_n_1 PC3 c3_pb f3_pb L3_pb N3_pb M3_pb
    have HR4 := Lib.hid hr; clear hr
    have c4_pb := PC4.2.1; have f4_pb := PC4.2.2; have L4_pb := PC4.1; have N4_pb := Nat.ne_of_gt L4_pb; have M4_pb := Nat.ne_of_lt L4_pb
    have HG4 := Lib.hid G4; clear G4 hb
    go_wp2_with (with_reducible refine M.stopPost ?_)
    (with_reducible refine (C5.out e4 _ _ ila ilb _ (by (repeat (first | (with_reducible assumption) | (with_reducible refine M.pcell_alloc ?_ _) | (with_reducible refine M.pcell_drewN ?_ _) | (with_reducible refine M.pcell_drew ?_) | (with_reducible refine M.pcell_far ?_ _ _ ?hFar; case hFar => (first | omega | ((try simp [go_sem]) <;> omega))) | fail)))).mono ?_); rintro en w5 ⟨k, e5, rfl, ik, hr, hb⟩
    have G5 : M.RW pb e5 w w5 := M.rw_step (by have G := HG4.out; (repeat (with_reducible refine M.Below.drewN ?_ _)); go_grown) hb hpb
    have S5 : w.heap.size ≤ w5.heap.size := by have := G5.size; rwa [M.setCell_size] at this
    have PC5 : M.PCell w5 pb e5 := M.pcell_behind hb (e := e4) (by (repeat (first | (with_reducible assumption) | (with_reducible refine M.pcell_alloc ?_ _) | (with_reducible refine M.pcell_drewN ?_ _) | (with_reducible refine M.pcell_drew ?_) | (with_reducible refine M.pcell_far ?_ _ _ ?hFar; case hFar => (first | omega | ((try simp [go_sem]) <;> omega))) | fail)))
    have V5_a : M.Var w5 (w.heap.size) #[.int .i64 a.shape, .int .i64 a.sx, .int .i64 a.sy, .int .i64 a.mass, .int .i64 a.px, .int .i64 a.py, .int .i64 a.mx, .int .i64 a.my] := M.var_rw (by (repeat (first | (with_reducible assumption) | (with_reducible apply M.var_set45) | (with_reducible apply M.var_setBd) | (with_reducible apply M.var_setV) | (with_reducible refine M.var_alloc' _ _ _ ?_; first | rfl | (focus (simp [go_sem]; done))) | (with_reducible refine M.Var.alloc ?_ _) | (with_reducible refine M.Var.drewN ?_ _) | (with_reducible refine M.Var.drew ?_) | (with_reducible refine M.Var.far ?_ _ _ ?hFar; case hFar => (first | omega | ((try simp [go_sem]) <;> omega))) | fail))) (by omega) hb
    have q5_a_0 : w5.cell? ⟨w.heap.size, 0, none⟩ = some (.int .i64 a.shape) := V5_a.c 0 _ rfl
    have q5_a_1 : w5.cell? ⟨w.heap.size, 1, none⟩ = some (.int .i64 a.sx) := V5_a.c 1 _ rfl
    have q5_a_2 : w5.cell? ⟨w.heap.size, 2, none⟩ = some (.int .i64 a.sy) := V5_a.c 2 _ rfl
    have q5_a_3 : w5.cell? ⟨w.heap.size, 3, none⟩ = some (.int .i64 a.mass) := V5_a.c 3 _ rfl
    have q5_a_4 : w5.cell? ⟨w.heap.size, 4, none⟩ = some (.int .i64 a.px) := V5_a.c 4 _ rfl
    have q5_a_5 : w5.cell? ⟨w.heap.size, 5, none⟩ = some (.int .i64 a.py) := V5_a.c 5 _ rfl
    have q5_a_6 : w5.cell? ⟨w.heap.size, 6, none⟩ = some (.int .i64 a.mx) := V5_a.c 6 _ rfl
    have q5_a_7 : w5.cell? ⟨w.heap.size, 7, none⟩ = some (.int .i64 a.my) := V5_a.c 7 _ rfl
    have f5_a := V5_a.2.2
    have L5_a := V5_a.lt
    have N5_a := Nat.ne_of_gt L5_a
    have M5_a := Nat.ne_of_lt L5_a
    have V5_b : M.Var w5 (w.heap.size + 1) #[.int .i64 b.shape, .int .i64 b.sx, .int .i64 b.sy, .int .i64 b.mass, .int .i64 b.px, .int .i64 b.py, .int .i64 b.mx, .int .i64 b.my] := M.var_rw (by (repeat (first | (with_reducible assumption) | (with_reducible apply M.var_set45) | (with_reducible apply M.var_setBd) | (with_reducible apply M.var_setV) | (with_reducible refine M.var_alloc' _ _ _ ?_; first | rfl | (focus (simp [go_sem]; done))) | (with_reducible refine M.Var.alloc ?_ _) | (with_reducible refine M.Var.drewN ?_ _) | (with_reducible refine M.Var.drew ?_) | (with_reducible refine M.Var.far ?_ _ _ ?hFar; case hFar => (first | omega | ((try simp [go_sem]) <;> omega))) | fail))) (by omega) hb
    have q5_b_0 : w5.cell? ⟨w.heap.size + 1, 0, none⟩ = some (.int .i64 b.shape) := V5_b.c 0 _ rfl
    have q5_b_1 : w5.cell? ⟨w.heap.size + 1, 1, none⟩ = some (.int .i64 b.sx) := V5_b.c 1 _ rfl
    have q5_b_2 : w5.cell? ⟨w.heap.size + 1, 2, none⟩ = some (.int .i64 b.sy) := V5_b.c 2 _ rfl
    have q5_b_3 : w5.cell? ⟨w.heap.size + 1, 3, none⟩ = some (.int .i64 b.mass) := V5_b.c 3 _ rfl
    have q5_b_4 : w5.cell? ⟨w.heap.size + 1, 4, none⟩ = some (.int .i64 b.px) := V5_b.c 4 _ rfl
    have q5_b_5 : w5.cell? ⟨w.heap.size + 1, 5, none⟩ = some (.int .i64 b.py) := V5_b.c 5 _ rfl
    have q5_b_6 : w5.cell? ⟨w.heap.size + 1, 6, none⟩ = some (.int .i64 b.mx) := V5_b.c 6 _ rfl
    have q5_b_7 : w5.cell? ⟨w.heap.size + 1, 7, none⟩ = some (.int .i64 b.my) := V5_b.c 7 _ rfl
    have f5_b := V5_b.2.2
    have L5_b := V5_b.lt
    have N5_b := Nat.ne_of_gt L5_b
    have M5_b := Nat.ne_of_lt L5_b
    have V5_r : M.Var w5 (w.heap.size + 1 + 1) #[.int .i64 0, .int .i64 0, .int .i64 0, .int .i64 0, .int .i64 0, .int .i64 0, .int .i64 0, .int .i64 0] := M.var_rw (by (repeat (first | (with_reducible assumption) | (with_reducible apply M.var_set45) | (with_reducible apply M.var_setBd) | (with_reducible apply M.var_setV) | (with_reducible refine M.var_alloc' _ _ _ ?_; first | rfl | (focus (simp [go_sem]; done))) | (with_reducible refine M.Var.alloc ?_ _) | (with_reducible refine M.Var.drewN ?_ _) | (with_reducible refine M.Var.drew ?_) | (with_reducible refine M.Var.far ?_ _ _ ?hFar; case hFar => (first | omega | ((try simp [go_sem]) <;> omega))) | fail))) (by omega) hb
    have q5_r_0 : w5.cell? ⟨w.heap.size + 1 + 1, 0, none⟩ = some (.int .i64 0) := V5_r.c 0 _ rfl
    have q5_r_1 : w5.cell? ⟨w.heap.size + 1 + 1, 1, none⟩ = some (.int .i64 0) := V5_r.c 1 _ rfl
    have q5_r_2 : w5.cell? ⟨w.heap.size + 1 + 1, 2, none⟩ = some (.int .i64 0) := V5_r.c 2 _ rfl
    have q5_r_3 : w5.cell? ⟨w.heap.size + 1 + 1, 3, none⟩ = some (.int .i64 0) := V5_r.c 3 _ rfl
    have q5_r_4 : w5.cell? ⟨w.heap.size + 1 + 1, 4, none⟩ = some (.int .i64 0) := V5_r.c 4 _ rfl
    have q5_r_5 : w5.cell? ⟨w.heap.size + 1 + 1, 5, none⟩ = some (.int .i64 0) := V5_r.c 5 _ rfl
    have q5_r_6 : w5.cell? ⟨w.heap.size + 1 + 1, 6, none⟩ = some (.int .i64 0) := V5_r.c 6 _ rfl
    have q5_r_7 : w5.cell? ⟨w.heap.size + 1 + 1, 7, none⟩ = some (.int .i64 0) := V5_r.c 7 _ rfl
    have f5_r := V5_r.2.2
    have L5_r := V5_r.lt
    have N5_r := Nat.ne_of_gt L5_r
    have M5_r := Nat.ne_of_lt L5_r
    have V5_s : M.Var w5 (w.heap.size + 1 + 1 + 1) #[.int .i64 0, .int .i64 0, .int .i64 0, .int .i64 0, .int .i64 0, .int .i64 0, .int .i64 0, .int .i64 0] := M.var_rw (by (repeat (first | (with_reducible assumption) | (with_reducible apply M.var_set45) | (with_reducible apply M.var_setBd) | (with_reducible apply M.var_setV) | (with_reducible refine M.var_alloc' _ _ _ ?_; first | rfl | (focus (simp [go_sem]; done))) | (with_reducible refine M.Var.alloc ?_ _) | (with_reducible refine M.Var.drewN ?_ _) | (with_reducible refine M.Var.drew ?_) | (with_reducible refine M.Var.far ?_ _ _ ?hFar; case hFar => (first | omega | ((try simp [go_sem]) <;> omega))) | fail))) (by omega) hb
    have q5_s_0 : w5.cell? ⟨w.heap.size + 1 + 1 + 1, 0, none⟩ = some (.int .i64 0) := V5_s.c 0 _ rfl
    have q5_s_1 : w5.cell? ⟨w.heap.size + 1 + 1 + 1, 1, none⟩ = some (.int .i64 0) := V5_s.c 1 _ rfl
    have q5_s_2 : w5.cell? ⟨w.heap.size + 1 + 1 + 1, 2, none⟩ = some (.int .i64 0) := V5_s.c 2 _ rfl
    have q5_s_3 : w5.cell? ⟨w.heap.size + 1 + 1 + 1, 3, none⟩ = some (.int .i64 0) := V5_s.c 3 _ rfl
    have q5_s_4 : w5.cell? ⟨w.heap.size + 1 + 1 + 1, 4, none⟩ = some (.int .i64 0) := V5_s.c 4 _ rfl
    have q5_s_5 : w5.cell? ⟨w.heap.size + 1 + 1 + 1, 5, none⟩ = some (.int .i64 0) := V5_s.c 5 _ rfl
    have q5_s_6 : w5.cell? ⟨w.heap.size + 1 + 1 + 1, 6, none⟩ = some (.int .i64 0) := V5_s.c 6 _ rfl
    have q5_s_7 : w5.cell? ⟨w.heap.size + 1 + 1 + 1, 7, none⟩ = some (.int .i64 0) := V5_s.c 7 _ rfl
    have f5_s := V5_s.2.2
    have L5_s := V5_s.lt
    have N5_s := Nat.ne_of_gt L5_s
    have M5_s := Nat.ne_of_lt L5_s
    have V5_n : M.Var w5 (w2.heap.size) #[.int .i64 nx, .int .i64 ny] := M.var_rw (by (repeat (first | (with_reducible assumption) | (with_reducible apply M.var_set45) | (with_reducible apply M.var_setBd) | (with_reducible apply M.var_setV) | (with_reducible refine M.var_alloc' _ _ _ ?_; first | rfl | (focus (simp [go_sem]; done))) | (with_reducible refine M.Var.alloc ?_ _) | (with_reducible refine M.Var.drewN ?_ _) | (with_reducible refine M.Var.drew ?_) | (with_reducible refine M.Var.far ?_ _ _ ?hFar; case hFar => (first | omega | ((try simp [go_sem]) <;> omega))) | fail))) (by omega) hb
    have q5_n_0 : w5.cell? ⟨w2.heap.size, 0, none⟩ = some (.int .i64 nx) := V5_n.c 0 _ rfl
    have q5_n_1 : w5.cell? ⟨w2.heap.size, 1, none⟩ = some (.int .i64 ny) := V5_n.c 1 _ rfl
    have f5_n := V5_n.2.2
    have L5_n := V5_n.lt
    have N5_n := Nat.ne_of_gt L5_n
    have M5_n := Nat.ne_of_lt L5_n
    clear V4_a f4_a L4_a N4_a M4_a q4_a_0 q4_a_1 q4_a_2 q4_a_3 q4_a_4 q4_a_5 q4_a_6 q4_a_7 V4_b f4_b L4_b N4_b M4_b q4_b_0 q4_b_1 q4_b_2 q4_b_3 q4_b_4 q4_b_5 q4_b_6 q4_b_7 V4_r f4_r L4_r N4_r M4_r q4_r_0 q4_r_1 q4_r_2 q4_r_3 q4_r_4 q4_r_5 q4_r_6 q4_r_7 V4_s f4_s L4_s N4_s M4_s q4_s_0 q4_s_1 q4_s_2 q4_s_3 q4_s_4 q4_s_5 q4_s_6 q4_s_7 V4_n f4_n L4_n N4_n M4_n q4_n_0 q4_n_1 PC4 c4_pb f4_pb L4_pb N4_pb M4_pb
    have HR5 := Lib.hid hr; clear hr
    have c5_pb := PC5.2.1; have f5_pb := PC5.2.2; have L5_pb := PC5.1; have N5_pb := Nat.ne_of_gt L5_pb; have M5_pb := Nat.ne_of_lt L5_pb
    have HG5 := Lib.hid G5; clear G5 hb
    go_wp2_with (with_reducible refine M.stopPost ?_)
    · have h3 : k = 0 := beq_iff_eq.1 (by assumption)
      have HK := Lib.hid (rel_bind HR3.out (rel_bind HR4.out HR5.out) : M.Rel e2 (bothK a b) k e5)
      go_region_held2 (fun w' => w'.cell? ⟨w.heap.size, 0, none⟩ = some (.int .i64 a.shape) ∧ w'.cell? ⟨w.heap.size, 1, none⟩ = some (.int .i64 a.sx) ∧ w'.cell? ⟨w.heap.size, 2, none⟩ = some (.int .i64 a.sy) ∧ w'.cell? ⟨w.heap.size, 3, none⟩ = some (.int .i64 a.mass) ∧ w'.cell? ⟨w.heap.size, 4, none⟩ = some (.int .i64 a.px) ∧ w'.cell? ⟨w.heap.size, 5, none⟩ = some (.int .i64 a.py) ∧ w'.cell? ⟨w.heap.size, 6, none⟩ = some (.int .i64 a.mx) ∧ w'.cell? ⟨w.heap.size, 7, none⟩ = some (.int .i64 a.my) ∧ w'.cell? ⟨w.heap.size + 1, 0, none⟩ = some (.int .i64 b.shape) ∧ w'.cell? ⟨w.heap.size + 1, 1, none⟩ = some (.int .i64 b.sx) ∧ w'.cell? ⟨w.heap.size + 1, 2, none⟩ = some (.int .i64 b.sy) ∧ w'.cell? ⟨w.heap.size + 1, 3, none⟩ = some (.int .i64 b.mass) ∧ w'.cell? ⟨w.heap.size + 1, 4, none⟩ = some (.int .i64 b.px) ∧ w'.cell? ⟨w.heap.size + 1, 5, none⟩ = some (.int .i64 b.py) ∧ w'.cell? ⟨w.heap.size + 1, 6, none⟩ = some (.int .i64 b.mx) ∧ w'.cell? ⟨w.heap.size + 1, 7, none⟩ = some (.int .i64 b.my)) (first | (go_keep; done) | (simp [*, go_sem, World.cell?_alloc_some, World.cell?_setCell_far]; done))
        (fail)
      all_goals go_wp2_with (with_reducible refine M.stopPost ?_)
      (try refine M.Stop.mk ?_)
      refine bodyPost_ret (v := .tuple #[.agg #[.int .i64 a.shape, .int .i64 a.sx, .int .i64 a.sy, .int .i64 a.mass, .int .i64 a.px, .int .i64 a.py, .int .i64 a.mx, .int .i64 a.my], .agg #[.int .i64 b.shape, .int .i64 b.sx, .int .i64 b.sy, .int .i64 b.mass, .int .i64 b.px, .int .i64 b.py, .int .i64 b.mx, .int .i64 b.my]]) (by first | (simp [results, Try.results35, go_sem, q5_r_0, q5_r_1, q5_r_2, q5_r_3, q5_r_4, q5_r_5, q5_r_6, q5_r_7, f5_r, L5_r, N5_r, M5_r, q5_s_0, q5_s_1, q5_s_2, q5_s_3, q5_s_4, q5_s_5, q5_s_6, q5_s_7, f5_s, L5_s, N5_s, M5_s]; done) | (simp [results, Try.results35, go_sem, *]; done)) rfl ?_
      (try unfold M.RelHb); (try unfold M.RelBB); (try unfold M.RelI); (try unfold M.RelV); exact ⟨a, b, e5, rfl, HA.out, HB.out, (rel_bind HR1.out (rel_bind HR2.out (by (try dsimp only); rw [if_neg h0]; exact rel_bind HK.out (by rw [if_pos h3]; exact rel_ok _ _)))), by have G := HG5.out; (repeat (with_reducible refine M.Below.drewN ?_ _)); go_grown⟩
    · have h3 : ¬ k = 0 := beq_eq_false_iff_ne.1 (by assumption)
      have HK := Lib.hid (rel_bind HR3.out (rel_bind HR4.out HR5.out) : M.Rel e2 (bothK a b) k e5)
      (with_reducible refine (C6.out e5 _ (by (repeat (first | (with_reducible assumption) | (with_reducible refine M.pcell_alloc ?_ _) | (with_reducible refine M.pcell_drewN ?_ _) | (with_reducible refine M.pcell_drew ?_) | (with_reducible refine M.pcell_far ?_ _ _ ?hFar; case hFar => (first | omega | ((try simp [go_sem]) <;> omega))) | fail)))).mono ?_); rintro en w6 ⟨vx, vy, e6, rfl, ivx, ivy, hr, hb⟩
      have G6 : M.RW pb e6 w w6 := M.rw_step (by have G := HG5.out; (repeat (with_reducible refine M.Below.drewN ?_ _)); go_grown) hb hpb
      have S6 : w.heap.size ≤ w6.heap.size := by have := G6.size; rwa [M.setCell_size] at this
      have PC6 : M.PCell w6 pb e6 := M.pcell_behind hb (e := e5) (by (repeat (first | (with_reducible assumption) | (with_reducible refine M.pcell_alloc ?_ _) | (with_reducible refine M.pcell_drewN ?_ _) | (with_reducible refine M.pcell_drew ?_) | (with_reducible refine M.pcell_far ?_ _ _ ?hFar; case hFar => (first | omega | ((try simp [go_sem]) <;> omega))) | fail)))
      have V6_a : M.Var w6 (w.heap.size) #[.int .i64 a.shape, .int .i64 a.sx, .int .i64 a.sy, .int .i64 a.mass, .int .i64 a.px, .int .i64 a.py, .int .i64 a.mx, .int .i64 a.my] := M.var_rw (by (repeat (first | (with_reducible assumption) | (with_reducible apply M.var_set45) | (with_reducible apply M.var_setBd) | (with_reducible apply M.var_setV) | (with_reducible refine M.var_alloc' _ _ _ ?_; first | rfl | (focus (simp [go_sem]; done))) | (with_reducible refine M.Var.alloc ?_ _) | (with_reducible refine M.Var.drewN ?_ _) | (with_reducible refine M.Var.drew ?_) | (with_reducible refine M.Var.far ?_ _ _ ?hFar; case hFar => (first | omega | ((try simp [go_sem]) <;> omega))) | fail))) (by omega) hb
      have q6_a_0 : w6.cell? ⟨w.heap.size, 0, none⟩ = some (.int .i64 a.shape) := V6_a.c 0 _ rfl
      have q6_a_1 : w6.cell? ⟨w.heap.size, 1, none⟩ = some (.int .i64 a.sx) := V6_a.c 1 _ rfl
      have q6_a_2 : w6.cell? ⟨w.heap.size, 2, none⟩ = some (.int .i64 a.sy) := V6_a.c 2 _ rfl
      have q6_a_3 : w6.cell? ⟨w.heap.size, 3, none⟩ = some (.int .i64 a.mass) := V6_a.c 3 _ rfl
      have q6_a_4 : w6.cell? ⟨w.heap.size, 4, none⟩ = some (.int .i64 a.px) := V6_a.c 4 _ rfl
      have q6_a_5 : w6.cell? ⟨w.heap.size, 5, none⟩ = some (.int .i64 a.py) := V6_a.c 5 _ rfl
      have q6_a_6 : w6.cell? ⟨w.heap.size, 6, none⟩ = some (.int .i64 a.mx) := V6_a.c 6 _ rfl
      have q6_a_7 : w6.cell? ⟨w.heap.size, 7, none⟩ = some (.int .i64 a.my) := V6_a.c 7 _ rfl
      have f6_a := V6_a.2.2
      have L6_a := V6_a.lt
      have N6_a := Nat.ne_of_gt L6_a
      have M6_a := Nat.ne_of_lt L6_a
      have V6_b : M.Var w6 (w.heap.size + 1) #[.int .i64 b.shape, .int .i64 b.sx, .int .i64 b.sy, .int .i64 b.mass, .int .i64 b.px, .int .i64 b.py, .int .i64 b.mx, .int .i64 b.my] := M.var_rw (by (repeat (first | (with_reducible assumption) | (with_reducible apply M.var_set45) | (with_reducible apply M.var_setBd) | (with_reducible apply M.var_setV) | (with_reducible refine M.var_alloc' _ _ _ ?_; first | rfl | (focus (simp [go_sem]; done))) | (with_reducible refine M.Var.alloc ?_ _) | (with_reducible refine M.Var.drewN ?_ _) | (with_reducible refine M.Var.drew ?_) | (with_reducible refine M.Var.far ?_ _ _ ?hFar; case hFar => (first | omega | ((try simp [go_sem]) <;> omega))) | fail))) (by omega) hb
      have q6_b_0 : w6.cell? ⟨w.heap.size + 1, 0, none⟩ = some (.int .i64 b.shape) := V6_b.c 0 _ rfl
      have q6_b_1 : w6.cell? ⟨w.heap.size + 1, 1, none⟩ = some (.int .i64 b.sx) := V6_b.c 1 _ rfl
      have q6_b_2 : w6.cell? ⟨w.heap.size + 1, 2, none⟩ = some (.int .i64 b.sy) := V6_b.c 2 _ rfl
      have q6_b_3 : w6.cell? ⟨w.heap.size + 1, 3, none⟩ = some (.int .i64 b.mass) := V6_b.c 3 _ rfl
      have q6_b_4 : w6.cell? ⟨w.heap.size + 1, 4, none⟩ = some (.int .i64 b.px) := V6_b.c 4 _ rfl
      have q6_b_5 : w6.cell? ⟨w.heap.size + 1, 5, none⟩ = some (.int .i64 b.py) := V6_b.c 5 _ rfl
      have q6_b_6 : w6.cell? ⟨w.heap.size + 1, 6, none⟩ = some (.int .i64 b.mx) := V6_b.c 6 _ rfl
      have q6_b_7 : w6.cell? ⟨w.heap.size + 1, 7, none⟩ = some (.int .i64 b.my) := V6_b.c 7 _ rfl
      have f6_b := V6_b.2.2
      have L6_b := V6_b.lt
      have N6_b := Nat.ne_of_gt L6_b
      have M6_b := Nat.ne_of_lt L6_b
      have V6_r : M.Var w6 (w.heap.size + 1 + 1) #[.int .i64 0, .int .i64 0, .int .i64 0, .int .i64 0, .int .i64 0, .int .i64 0, .int .i64 0, .int .i64 0] := M.var_rw (by (repeat (first | (with_reducible assumption) | (with_reducible apply M.var_set45) | (with_reducible apply M.var_setBd) | (with_reducible apply M.var_setV) | (with_reducible refine M.var_alloc' _ _ _ ?_; first | rfl | (focus (simp [go_sem]; done))) | (with_reducible refine M.Var.alloc ?_ _) | (with_reducible refine M.Var.drewN ?_ _) | (with_reducible refine M.Var.drew ?_) | (with_reducible refine M.Var.far ?_ _ _ ?hFar; case hFar => (first | omega | ((try simp [go_sem]) <;> omega))) | fail))) (by omega) hb
      have q6_r_0 : w6.cell? ⟨w.heap.size + 1 + 1, 0, none⟩ = some (.int .i64 0) := V6_r.c 0 _ rfl
      have q6_r_1 : w6.cell? ⟨w.heap.size + 1 + 1, 1, none⟩ = some (.int .i64 0) := V6_r.c 1 _ rfl
      have q6_r_2 : w6.cell? ⟨w.heap.size + 1 + 1, 2, none⟩ = some (.int .i64 0) := V6_r.c 2 _ rfl
      have q6_r_3 : w6.cell? ⟨w.heap.size + 1 + 1, 3, none⟩ = some (.int .i64 0) := V6_r.c 3 _ rfl
      have q6_r_4 : w6.cell? ⟨w.heap.size + 1 + 1, 4, none⟩ = some (.int .i64 0) := V6_r.c 4 _ rfl
      have q6_r_5 : w6.cell? ⟨w.heap.size + 1 + 1, 5, none⟩ = some (.int .i64 0) := V6_r.c 5 _ rfl
      have q6_r_6 : w6.cell? ⟨w.heap.size + 1 + 1, 6, none⟩ = some (.int .i64 0) := V6_r.c 6 _ rfl
      have q6_r_7 : w6.cell? ⟨w.heap.size + 1 + 1, 7, none⟩ = some (.int .i64 0) := V6_r.c 7 _ rfl
      have f6_r := V6_r.2.2
      have L6_r := V6_r.lt
      have N6_r := Nat.ne_of_gt L6_r
      have M6_r := Nat.ne_of_lt L6_r
      have V6_s : M.Var w6 (w.heap.size + 1 + 1 + 1) #[.int .i64 0, .int .i64 0, .int .i64 0, .int .i64 0, .int .i64 0, .int .i64 0, .int .i64 0, .int .i64 0] := M.var_rw (by (repeat (first | (with_reducible assumption) | (with_reducible apply M.var_set45) | (with_reducible apply M.var_setBd) | (with_reducible apply M.var_setV) | (with_reducible refine M.var_alloc' _ _ _ ?_; first | rfl | (focus (simp [go_sem]; done))) | (with_reducible refine M.Var.alloc ?_ _) | (with_reducible refine M.Var.drewN ?_ _) | (with_reducible refine M.Var.drew ?_) | (with_reducible refine M.Var.far ?_ _ _ ?hFar; case hFar => (first | omega | ((try simp [go_sem]) <;> omega))) | fail))) (by omega) hb
      have q6_s_0 : w6.cell? ⟨w.heap.size + 1 + 1 + 1, 0, none⟩ = some (.int .i64 0) := V6_s.c 0 _ rfl
      have q6_s_1 : w6.cell? ⟨w.heap.size + 1 + 1 + 1, 1, none⟩ = some (.int .i64 0) := V6_s.c 1 _ rfl
      have q6_s_2 : w6.cell? ⟨w.heap.size + 1 + 1 + 1, 2, none⟩ = some (.int .i64 0) := V6_s.c 2 _ rfl
      have q6_s_3 : w6.cell? ⟨w.heap.size + 1 + 1 + 1, 3, none⟩ = some (.int .i64 0) := V6_s.c 3 _ rfl
      have q6_s_4 : w6.cell? ⟨w.heap.size + 1 + 1 + 1, 4, none⟩ = some (.int .i64 0) := V6_s.c 4 _ rfl
      have q6_s_5 : w6.cell? ⟨w.heap.size + 1 + 1 + 1, 5, none⟩ = some (.int .i64 0) := V6_s.c 5 _ rfl
      have q6_s_6 : w6.cell? ⟨w.heap.size + 1 + 1 + 1, 6, none⟩ = some (.int .i64 0) := V6_s.c 6 _ rfl
      have q6_s_7 : w6.cell? ⟨w.heap.size + 1 + 1 + 1, 7, none⟩ = some (.int .i64 0) := V6_s.c 7 _ rfl
      have f6_s := V6_s.2.2
      have L6_s := V6_s.lt
      have N6_s := Nat.ne_of_gt L6_s
      have M6_s := Nat.ne_of_lt L6_s
      have V6_n : M.Var w6 (w2.heap.size) #[.int .i64 nx, .int .i64 ny] := M.var_rw (by (repeat (first | (with_reducible assumption) | (with_reducible apply M.var_set45) | (with_reducible apply M.var_setBd) | (with_reducible apply M.var_setV) | (with_reducible refine M.var_alloc' _ _ _ ?_; first | rfl | (focus (simp [go_sem]; done))) | (with_reducible refine M.Var.alloc ?_ _) | (with_reducible refine M.Var.drewN ?_ _) | (with_reducible refine M.Var.drew ?_) | (with_reducible refine M.Var.far ?_ _ _ ?hFar; case hFar => (first | omega | ((try simp [go_sem]) <;> omega))) | fail))) (by omega) hb
      have q6_n_0 : w6.cell? ⟨w2.heap.size, 0, none⟩ = some (.int .i64 nx) := V6_n.c 0 _ rfl
      have q6_n_1 : w6.cell? ⟨w2.heap.size, 1, none⟩ = some (.int .i64 ny) := V6_n.c 1 _ rfl
      have f6_n := V6_n.2.2
      have L6_n := V6_n.lt
      have N6_n := Nat.ne_of_gt L6_n
      have M6_n := Nat.ne_of_lt L6_n
      clear V5_a f5_a L5_a N5_a M5_a q5_a_0 q5_a_1 q5_a_2 q5_a_3 q5_a_4 q5_a_5 q5_a_6 q5_a_7 V5_b f5_b L5_b N5_b M5_b q5_b_0 q5_b_1 q5_b_2 q5_b_3 q5_b_4 q5_b_5 q5_b_6 q5_b_7 V5_r f5_r L5_r N5_r M5_r q5_r_0 q5_r_1 q5_r_2 q5_r_3 q5_r_4 q5_r_5 q5_r_6 q5_r_7 V5_s f5_s L5_s N5_s M5_s q5_s_0 q5_s_1 q5_s_2 q5_s_3 q5_s_4 q5_s_5 q5_s_6 q5_s_7 V5_n f5_n L5_n N5_n M5_n q5_n_0 q5_n_1 PC5 c5_pb f5_pb L5_pb N5_pb M5_pb
      have HR6 := Lib.hid hr; clear hr
      have c6_pb := PC6.2.1; have f6_pb := PC6.2.2; have L6_pb := PC6.1; have N6_pb := Nat.ne_of_gt L6_pb; have M6_pb := Nat.ne_of_lt L6_pb
      have HG6 := Lib.hid G6; clear G6 hb
      go_wp2_with (with_reducible refine M.stopPost ?_)
      (with_reducible refine (C7.out e6 _ (by (repeat (first | (with_reducible assumption) | (with_reducible refine M.pcell_alloc ?_ _) | (with_reducible refine M.pcell_drewN ?_ _) | (with_reducible refine M.pcell_drew ?_) | (with_reducible refine M.pcell_far ?_ _ _ ?hFar; case hFar => (first | omega | ((try simp [go_sem]) <;> omega))) | fail)))).mono ?_); rintro en w7 ⟨ux, uy, e7, rfl, iux, iuy, hr, hb⟩
      have G7 : M.RW pb e7 w w7 := M.rw_step (by have G := HG6.out; (repeat (with_reducible refine M.Below.drewN ?_ _)); go_grown) hb hpb
      have S7 : w.heap.size ≤ w7.heap.size := by have := G7.size; rwa [M.setCell_size] at this
      have PC7 : M.PCell w7 pb e7 := M.pcell_behind hb (e := e6) (by (repeat (first | (with_reducible assumption) | (with_reducible refine M.pcell_alloc ?_ _) | (with_reducible refine M.pcell_drewN ?_ _) | (with_reducible refine M.pcell_drew ?_) | (with_reducible refine M.pcell_far ?_ _ _ ?hFar; case hFar => (first | omega | ((try simp [go_sem]) <;> omega))) | fail)))
      have V7_a : M.Var w7 (w.heap.size) #[.int .i64 a.shape, .int .i64 a.sx, .int .i64 a.sy, .int .i64 a.mass, .int .i64 a.px, .int .i64 a.py, .int .i64 a.mx, .int .i64 a.my] := M.var_rw (by (repeat (first | (with_reducible assumption) | (with_reducible apply M.var_set45) | (with_reducible apply M.var_setBd) | (with_reducible apply M.var_setV) | (with_reducible refine M.var_alloc' _ _ _ ?_; first | rfl | (focus (simp [go_sem]; done))) | (with_reducible refine M.Var.alloc ?_ _) | (with_reducible refine M.Var.drewN ?_ _) | (with_reducible refine M.Var.drew ?_) | (with_reducible refine M.Var.far ?_ _ _ ?hFar; case hFar => (first | omega | ((try simp [go_sem]) <;> omega))) | fail))) (by omega) hb
      have q7_a_0 : w7.cell? ⟨w.heap.size, 0, none⟩ = some (.int .i64 a.shape) := V7_a.c 0 _ rfl
      have q7_a_1 : w7.cell? ⟨w.heap.size, 1, none⟩ = some (.int .i64 a.sx) := V7_a.c 1 _ rfl
      have q7_a_2 : w7.cell? ⟨w.heap.size, 2, none⟩ = some (.int .i64 a.sy) := V7_a.c 2 _ rfl
      have q7_a_3 : w7.cell? ⟨w.heap.size, 3, none⟩ = some (.int .i64 a.mass) := V7_a.c 3 _ rfl
      have q7_a_4 : w7.cell? ⟨w.heap.size, 4, none⟩ = some (.int .i64 a.px) := V7_a.c 4 _ rfl
      have q7_a_5 : w7.cell? ⟨w.heap.size, 5, none⟩ = some (.int .i64 a.py) := V7_a.c 5 _ rfl
      have q7_a_6 : w7.cell? ⟨w.heap.size, 6, none⟩ = some (.int .i64 a.mx) := V7_a.c 6 _ rfl
      have q7_a_7 : w7.cell? ⟨w.heap.size, 7, none⟩ = some (.int .i64 a.my) := V7_a.c 7 _ rfl
      have f7_a := V7_a.2.2
      have L7_a := V7_a.lt
      have N7_a := Nat.ne_of_gt L7_a
      have M7_a := Nat.ne_of_lt L7_a
      have V7_b : M.Var w7 (w.heap.size + 1) #[.int .i64 b.shape, .int .i64 b.sx, .int .i64 b.sy, .int .i64 b.mass, .int .i64 b.px, .int .i64 b.py, .int .i64 b.mx, .int .i64 b.my] := M.var_rw (by (repeat (first | (with_reducible assumption) | (with_reducible apply M.var_set45) | (with_reducible apply M.var_setBd) | (with_reducible apply M.var_setV) | (with_reducible refine M.var_alloc' _ _ _ ?_; first | rfl | (focus (simp [go_sem]; done))) | (with_reducible refine M.Var.alloc ?_ _) | (with_reducible refine M.Var.drewN ?_ _) | (with_reducible refine M.Var.drew ?_) | (with_reducible refine M.Var.far ?_ _ _ ?hFar; case hFar => (first | omega | ((try simp [go_sem]) <;> omega))) | fail))) (by omega) hb
      have q7_b_0 : w7.cell? ⟨w.heap.size + 1, 0, none⟩ = some (.int .i64 b.shape) := V7_b.c 0 _ rfl
      have q7_b_1 : w7.cell? ⟨w.heap.size + 1, 1, none⟩ = some (.int .i64 b.sx) := V7_b.c 1 _ rfl
      have q7_b_2 : w7.cell? ⟨w.heap.size + 1, 2, none⟩ = some (.int .i64 b.sy) := V7_b.c 2 _ rfl
      have q7_b_3 : w7.cell? ⟨w.heap.size + 1, 3, none⟩ = some (.int .i64 b.mass) := V7_b.c 3 _ rfl
      have q7_b_4 : w7.cell? ⟨w.heap.size + 1, 4, none⟩ = some (.int .i64 b.px) := V7_b.c 4 _ rfl
      have q7_b_5 : w7.cell? ⟨w.heap.size + 1, 5, none⟩ = some (.int .i64 b.py) := V7_b.c 5 _ rfl
      have q7_b_6 : w7.cell? ⟨w.heap.size + 1, 6, none⟩ = some (.int .i64 b.mx) := V7_b.c 6 _ rfl
      have q7_b_7 : w7.cell? ⟨w.heap.size + 1, 7, none⟩ = some (.int .i64 b.my) := V7_b.c 7 _ rfl
      have f7_b := V7_b.2.2
      have L7_b := V7_b.lt
      have N7_b := Nat.ne_of_gt L7_b
      have M7_b := Nat.ne_of_lt L7_b
      have V7_r : M.Var w7 (w.heap.size + 1 + 1) #[.int .i64 0, .int .i64 0, .int .i64 0, .int .i64 0, .int .i64 0, .int .i64 0, .int .i64 0, .int .i64 0] := M.var_rw (by (repeat (first | (with_reducible assumption) | (with_reducible apply M.var_set45) | (with_reducible apply M.var_setBd) | (with_reducible apply M.var_setV) | (with_reducible refine M.var_alloc' _ _ _ ?_; first | rfl | (focus (simp [go_sem]; done))) | (with_reducible refine M.Var.alloc ?_ _) | (with_reducible refine M.Var.drewN ?_ _) | (with_reducible refine M.Var.drew ?_) | (with_reducible refine M.Var.far ?_ _ _ ?hFar; case hFar => (first | omega | ((try simp [go_sem]) <;> omega))) | fail))) (by omega) hb
      have q7_r_0 : w7.cell? ⟨w.heap.size + 1 + 1, 0, none⟩ = some (.int .i64 0) := V7_r.c 0 _ rfl
      have q7_r_1 : w7.cell? ⟨w.heap.size + 1 + 1, 1, none⟩ = some (.int .i64 0) := V7_r.c 1 _ rfl
      have q7_r_2 : w7.cell? ⟨w.heap.size + 1 + 1, 2, none⟩ = some (.int .i64 0) := V7_r.c 2 _ rfl
      have q7_r_3 : w7.cell? ⟨w.heap.size + 1 + 1, 3, none⟩ = some (.int .i64 0) := V7_r.c 3 _ rfl
      have q7_r_4 : w7.cell? ⟨w.heap.size + 1 + 1, 4, none⟩ = some (.int .i64 0) := V7_r.c 4 _ rfl
      have q7_r_5 : w7.cell? ⟨w.heap.size + 1 + 1, 5, none⟩ = some (.int .i64 0) := V7_r.c 5 _ rfl
      have q7_r_6 : w7.cell? ⟨w.heap.size + 1 + 1, 6, none⟩ = some (.int .i64 0) := V7_r.c 6 _ rfl
      have q7_r_7 : w7.cell? ⟨w.heap.size + 1 + 1, 7, none⟩ = some (.int .i64 0) := V7_r.c 7 _ rfl
      have f7_r := V7_r.2.2
      have L7_r := V7_r.lt
      have N7_r := Nat.ne_of_gt L7_r
      have M7_r := Nat.ne_of_lt L7_r
      have V7_s : M.Var w7 (w.heap.size + 1 + 1 + 1) #[.int .i64 0, .int .i64 0, .int .i64 0, .int .i64 0, .int .i64 0, .int .i64 0, .int .i64 0, .int .i64 0] := M.var_rw (by (repeat (first | (with_reducible assumption) | (with_reducible apply M.var_set45) | (with_reducible apply M.var_setBd) | (with_reducible apply M.var_setV) | (with_reducible refine M.var_alloc' _ _ _ ?_; first | rfl | (focus (simp [go_sem]; done))) | (with_reducible refine M.Var.alloc ?_ _) | (with_reducible refine M.Var.drewN ?_ _) | (with_reducible refine M.Var.drew ?_) | (with_reducible refine M.Var.far ?_ _ _ ?hFar; case hFar => (first | omega | ((try simp [go_sem]) <;> omega))) | fail))) (by omega) hb
      have q7_s_0 : w7.cell? ⟨w.heap.size + 1 + 1 + 1, 0, none⟩ = some (.int .i64 0) := V7_s.c 0 _ rfl
      have q7_s_1 : w7.cell? ⟨w.heap.size + 1 + 1 + 1, 1, none⟩ = some (.int .i64 0) := V7_s.c 1 _ rfl
      have q7_s_2 : w7.cell? ⟨w.heap.size + 1 + 1 + 1, 2, none⟩ = some (.int .i64 0) := V7_s.c 2 _ rfl
      have q7_s_3 : w7.cell? ⟨w.heap.size + 1 + 1 + 1, 3, none⟩ = some (.int .i64 0) := V7_s.c 3 _ rfl
      have q7_s_4 : w7.cell? ⟨w.heap.size + 1 + 1 + 1, 4, none⟩ = some (.int .i64 0) := V7_s.c 4 _ rfl
      have q7_s_5 : w7.cell? ⟨w.heap.size + 1 + 1 + 1, 5, none⟩ = some (.int .i64 0) := V7_s.c 5 _ rfl
      have q7_s_6 : w7.cell? ⟨w.heap.size + 1 + 1 + 1, 6, none⟩ = some (.int .i64 0) := V7_s.c 6 _ rfl
      have q7_s_7 : w7.cell? ⟨w.heap.size + 1 + 1 + 1, 7, none⟩ = some (.int .i64 0) := V7_s.c 7 _ rfl
      have f7_s := V7_s.2.2
      have L7_s := V7_s.lt
      have N7_s := Nat.ne_of_gt L7_s
      have M7_s := Nat.ne_of_lt L7_s
      have V7_n : M.Var w7 (w2.heap.size) #[.int .i64 nx, .int .i64 ny] := M.var_rw (by (repeat (first | (with_reducible assumption) | (with_reducible apply M.var_set45) | (with_reducible apply M.var_setBd) | (with_reducible apply M.var_setV) | (with_reducible refine M.var_alloc' _ _ _ ?_; first | rfl | (focus (simp [go_sem]; done))) | (with_reducible refine M.Var.alloc ?_ _) | (with_reducible refine M.Var.drewN ?_ _) | (with_reducible refine M.Var.drew ?_) | (with_reducible refine M.Var.far ?_ _ _ ?hFar; case hFar => (first | omega | ((try simp [go_sem]) <;> omega))) | fail))) (by omega) hb
      have q7_n_0 : w7.cell? ⟨w2.heap.size, 0, none⟩ = some (.int .i64 nx) := V7_n.c 0 _ rfl
      have q7_n_1 : w7.cell? ⟨w2.heap.size, 1, none⟩ = some (.int .i64 ny) := V7_n.c 1 _ rfl
      have f7_n := V7_n.2.2
      have L7_n := V7_n.lt
      have N7_n := Nat.ne_of_gt L7_n
      have M7_n := Nat.ne_of_lt L7_n
      have V7_sb : M.Var w7 (w6.heap.size) #[.int .i64 vx, .int .i64 vy] := M.var_rw (by (repeat (first | (with_reducible assumption) | (with_reducible apply M.var_set45) | (with_reducible apply M.var_setBd) | (with_reducible apply M.var_setV) | (with_reducible refine M.var_alloc' _ _ _ ?_; first | rfl | (focus (simp [go_sem]; done))) | (with_reducible refine M.Var.alloc ?_ _) | (with_reducible refine M.Var.drewN ?_ _) | (with_reducible refine M.Var.drew ?_) | (with_reducible refine M.Var.far ?_ _ _ ?hFar; case hFar => (first | omega | ((try simp [go_sem]) <;> omega))) | fail))) (by omega) hb
      have q7_sb_0 : w7.cell? ⟨w6.heap.size, 0, none⟩ = some (.int .i64 vx) := V7_sb.c 0 _ rfl
      have q7_sb_1 : w7.cell? ⟨w6.heap.size, 1, none⟩ = some (.int .i64 vy) := V7_sb.c 1 _ rfl
      have f7_sb := V7_sb.2.2
      have L7_sb := V7_sb.lt
      have N7_sb := Nat.ne_of_gt L7_sb
      have M7_sb := Nat.ne_of_lt L7_sb
      clear V6_a f6_a q6_a_0 q6_a_1 q6_a_2 q6_a_3 q6_a_4 q6_a_5 q6_a_6 q6_a_7 V6_b f6_b q6_b_0 q6_b_1 q6_b_2 q6_b_3 q6_b_4 q6_b_5 q6_b_6 q6_b_7 V6_r f6_r q6_r_0 q6_r_1 q6_r_2 q6_r_3 q6_r_4 q6_r_5 q6_r_6 q6_r_7 V6_s f6_s q6_s_0 q6_s_1 q6_s_2 q6_s_3 q6_s_4 q6_s_5 q6_s_6 q6_s_7 V6_n f6_n q6_n_0 q6_n_1 PC6 c6_pb f6_pb
      have HR7 := Lib.hid hr; clear hr
      have c7_pb := PC7.2.1; have f7_pb := PC7.2.2; have L7_pb := PC7.1; have N7_pb := Nat.ne_of_gt L7_pb; have M7_pb := Nat.ne_of_lt L7_pb
      have HG7 := Lib.hid G7; clear G7 hb
      go_wp2_with (with_reducible refine M.stopPost ?_)
      go_region_held2 (fun w' => w'.cell? ⟨w6.heap.size, 0, none⟩ = some (.int .i64 vx) ∧ w'.cell? ⟨w6.heap.size, 1, none⟩ = some (.int .i64 vy) ∧ w'.cell? ⟨w7.heap.size, 0, none⟩ = some (.int .i64 ux) ∧ w'.cell? ⟨w7.heap.size, 1, none⟩ = some (.int .i64 uy) ∧ w'.cell? ⟨w2.heap.size, 0, none⟩ = some (.int .i64 nx) ∧ w'.cell? ⟨w2.heap.size, 1, none⟩ = some (.int .i64 ny)) (first | (go_keep; done) | (simp [*, go_sem, World.cell?_alloc_some, World.cell?_setCell_far]; done))
        (first
        | (go_at_call 64; refine (C8.out e7 _ _ _ _ ivx ivy iux iuy _ (by (repeat (first | (with_reducible assumption) | (with_reducible refine M.pcell_alloc ?_ _) | (with_reducible refine M.pcell_drewN ?_ _) | (with_reducible refine M.pcell_drew ?_) | (with_reducible refine M.pcell_far ?_ _ _ ?hFar; case hFar => (first | omega | ((try simp [go_sem]) <;> omega))) | fail)))).mono ?_; rintro en w8 ⟨qx, qy, e8, rfl, iqx, iqy, hr, hb⟩
           have G8 : M.RW pb e8 w w8 := M.rw_step (by have G := HG7.out; (repeat (with_reducible refine M.Below.drewN ?_ _)); go_grown) hb hpb
           have S8 : w.heap.size ≤ w8.heap.size := by have := G8.size; rwa [M.setCell_size] at this
           have PC8 : M.PCell w8 pb e8 := M.pcell_behind hb (e := e7) (by (repeat (first | (with_reducible assumption) | (with_reducible refine M.pcell_alloc ?_ _) | (with_reducible refine M.pcell_drewN ?_ _) | (with_reducible refine M.pcell_drew ?_) | (with_reducible refine M.pcell_far ?_ _ _ ?hFar; case hFar => (first | omega | ((try simp [go_sem]) <;> omega))) | fail)))
           have V8_a : M.Var w8 (w.heap.size) #[.int .i64 a.shape, .int .i64 a.sx, .int .i64 a.sy, .int .i64 a.mass, .int .i64 a.px, .int .i64 a.py, .int .i64 a.mx, .int .i64 a.my] := M.var_rw (by (repeat (first | (with_reducible assumption) | (with_reducible apply M.var_set45) | (with_reducible apply M.var_setBd) | (with_reducible apply M.var_setV) | (with_reducible refine M.var_alloc' _ _ _ ?_; first | rfl | (focus (simp [go_sem]; done))) | (with_reducible refine M.Var.alloc ?_ _) | (with_reducible refine M.Var.drewN ?_ _) | (with_reducible refine M.Var.drew ?_) | (with_reducible refine M.Var.far ?_ _ _ ?hFar; case hFar => (first | omega | ((try simp [go_sem]) <;> omega))) | fail))) (by omega) hb
           have q8_a_0 : w8.cell? ⟨w.heap.size, 0, none⟩ = some (.int .i64 a.shape) := V8_a.c 0 _ rfl
           have q8_a_1 : w8.cell? ⟨w.heap.size, 1, none⟩ = some (.int .i64 a.sx) := V8_a.c 1 _ rfl
           have q8_a_2 : w8.cell? ⟨w.heap.size, 2, none⟩ = some (.int .i64 a.sy) := V8_a.c 2 _ rfl
           have q8_a_3 : w8.cell? ⟨w.heap.size, 3, none⟩ = some (.int .i64 a.mass) := V8_a.c 3 _ rfl
           have q8_a_4 : w8.cell? ⟨w.heap.size, 4, none⟩ = some (.int .i64 a.px) := V8_a.c 4 _ rfl
           have q8_a_5 : w8.cell? ⟨w.heap.size, 5, none⟩ = some (.int .i64 a.py) := V8_a.c 5 _ rfl
           have q8_a_6 : w8.cell? ⟨w.heap.size, 6, none⟩ = some (.int .i64 a.mx) := V8_a.c 6 _ rfl
           have q8_a_7 : w8.cell? ⟨w.heap.size, 7, none⟩ = some (.int .i64 a.my) := V8_a.c 7 _ rfl
           have f8_a := V8_a.2.2
           have L8_a := V8_a.lt
           have N8_a := Nat.ne_of_gt L8_a
           have M8_a := Nat.ne_of_lt L8_a
           have V8_b : M.Var w8 (w.heap.size + 1) #[.int .i64 b.shape, .int .i64 b.sx, .int .i64 b.sy, .int .i64 b.mass, .int .i64 b.px, .int .i64 b.py, .int .i64 b.mx, .int .i64 b.my] := M.var_rw (by (repeat (first | (with_reducible assumption) | (with_reducible apply M.var_set45) | (with_reducible apply M.var_setBd) | (with_reducible apply M.var_setV) | (with_reducible refine M.var_alloc' _ _ _ ?_; first | rfl | (focus (simp [go_sem]; done))) | (with_reducible refine M.Var.alloc ?_ _) | (with_reducible refine M.Var.drewN ?_ _) | (with_reducible refine M.Var.drew ?_) | (with_reducible refine M.Var.far ?_ _ _ ?hFar; case hFar => (first | omega | ((try simp [go_sem]) <;> omega))) | fail))) (by omega) hb
           have q8_b_0 : w8.cell? ⟨w.heap.size + 1, 0, none⟩ = some (.int .i64 b.shape) := V8_b.c 0 _ rfl
           have q8_b_1 : w8.cell? ⟨w.heap.size + 1, 1, none⟩ = some (.int .i64 b.sx) := V8_b.c 1 _ rfl
           have q8_b_2 : w8.cell? ⟨w.heap.size + 1, 2, none⟩ = some (.int .i64 b.sy) := V8_b.c 2 _ rfl
           have q8_b_3 : w8.cell? ⟨w.heap.size + 1, 3, none⟩ = some (.int .i64 b.mass) := V8_b.c 3 _ rfl
           have q8_b_4 : w8.cell? ⟨w.heap.size + 1, 4, none⟩ = some (.int .i64 b.px) := V8_b.c 4 _ rfl
           have q8_b_5 : w8.cell? ⟨w.heap.size + 1, 5, none⟩ = some (.int .i64 b.py) := V8_b.c 5 _ rfl
           have q8_b_6 : w8.cell? ⟨w.heap.size + 1, 6, none⟩ = some (.int .i64 b.mx) := V8_b.c 6 _ rfl
           have q8_b_7 : w8.cell? ⟨w.heap.size + 1, 7, none⟩ = some (.int .i64 b.my) := V8_b.c 7 _ rfl
           have f8_b := V8_b.2.2
           have L8_b := V8_b.lt
           have N8_b := Nat.ne_of_gt L8_b
           have M8_b := Nat.ne_of_lt L8_b
           have V8_r : M.Var w8 (w.heap.size + 1 + 1) #[.int .i64 0, .int .i64 0, .int .i64 0, .int .i64 0, .int .i64 0, .int .i64 0, .int .i64 0, .int .i64 0] := M.var_rw (by (repeat (first | (with_reducible assumption) | (with_reducible apply M.var_set45) | (with_reducible apply M.var_setBd) | (with_reducible apply M.var_setV) | (with_reducible refine M.var_alloc' _ _ _ ?_; first | rfl | (focus (simp [go_sem]; done))) | (with_reducible refine M.Var.alloc ?_ _) | (with_reducible refine M.Var.drewN ?_ _) | (with_reducible refine M.Var.drew ?_) | (with_reducible refine M.Var.far ?_ _ _ ?hFar; case hFar => (first | omega | ((try simp [go_sem]) <;> omega))) | fail))) (by omega) hb
           have q8_r_0 : w8.cell? ⟨w.heap.size + 1 + 1, 0, none⟩ = some (.int .i64 0) := V8_r.c 0 _ rfl
           have q8_r_1 : w8.cell? ⟨w.heap.size + 1 + 1, 1, none⟩ = some (.int .i64 0) := V8_r.c 1 _ rfl
           have q8_r_2 : w8.cell? ⟨w.heap.size + 1 + 1, 2, none⟩ = some (.int .i64 0) := V8_r.c 2 _ rfl
           have q8_r_3 : w8.cell? ⟨w.heap.size + 1 + 1, 3, none⟩ = some (.int .i64 0) := V8_r.c 3 _ rfl
           have q8_r_4 : w8.cell? ⟨w.heap.size + 1 + 1, 4, none⟩ = some (.int .i64 0) := V8_r.c 4 _ rfl
           have q8_r_5 : w8.cell? ⟨w.heap.size + 1 + 1, 5, none⟩ = some (.int .i64 0) := V8_r.c 5 _ rfl
           have q8_r_6 : w8.cell? ⟨w.heap.size + 1 + 1, 6, none⟩ = some (.int .i64 0) := V8_r.c 6 _ rfl
           have q8_r_7 : w8.cell? ⟨w.heap.size + 1 + 1, 7, none⟩ = some (.int .i64 0) := V8_r.c 7 _ rfl
           have f8_r := V8_r.2.2
           have L8_r := V8_r.lt
           have N8_r := Nat.ne_of_gt L8_r
           have M8_r := Nat.ne_of_lt L8_r
           have V8_s : M.Var w8 (w.heap.size + 1 + 1 + 1) #[.int .i64 0, .int .i64 0, .int .i64 0, .int .i64 0, .int .i64 0, .int .i64 0, .int .i64 0, .int .i64 0] := M.var_rw (by (repeat (first | (with_reducible assumption) | (with_reducible apply M.var_set45) | (with_reducible apply M.var_setBd) | (with_reducible apply M.var_setV) | (with_reducible refine M.var_alloc' _ _ _ ?_; first | rfl | (focus (simp [go_sem]; done))) | (with_reducible refine M.Var.alloc ?_ _) | (with_reducible refine M.Var.drewN ?_ _) | (with_reducible refine M.Var.drew ?_) | (with_reducible refine M.Var.far ?_ _ _ ?hFar; case hFar => (first | omega | ((try simp [go_sem]) <;> omega))) | fail))) (by omega) hb
           have q8_s_0 : w8.cell? ⟨w.heap.size + 1 + 1 + 1, 0, none⟩ = some (.int .i64 0) := V8_s.c 0 _ rfl
           have q8_s_1 : w8.cell? ⟨w.heap.size + 1 + 1 + 1, 1, none⟩ = some (.int .i64 0) := V8_s.c 1 _ rfl
           have q8_s_2 : w8.cell? ⟨w.heap.size + 1 + 1 + 1, 2, none⟩ = some (.int .i64 0) := V8_s.c 2 _ rfl
           have q8_s_3 : w8.cell? ⟨w.heap.size + 1 + 1 + 1, 3, none⟩ = some (.int .i64 0) := V8_s.c 3 _ rfl
           have q8_s_4 : w8.cell? ⟨w.heap.size + 1 + 1 + 1, 4, none⟩ = some (.int .i64 0) := V8_s.c 4 _ rfl
           have q8_s_5 : w8.cell? ⟨w.heap.size + 1 + 1 + 1, 5, none⟩ = some (.int .i64 0) := V8_s.c 5 _ rfl
           have q8_s_6 : w8.cell? ⟨w.heap.size + 1 + 1 + 1, 6, none⟩ = some (.int .i64 0) := V8_s.c 6 _ rfl
           have q8_s_7 : w8.cell? ⟨w.heap.size + 1 + 1 + 1, 7, none⟩ = some (.int .i64 0) := V8_s.c 7 _ rfl
           have f8_s := V8_s.2.2
           have L8_s := V8_s.lt
           have N8_s := Nat.ne_of_gt L8_s
           have M8_s := Nat.ne_of_lt L8_s
           have V8_n : M.Var w8 (w2.heap.size) #[.int .i64 nx, .int .i64 ny] := M.var_rw (by (repeat (first | (with_reducible assumption) | (with_reducible apply M.var_set45) | (with_reducible apply M.var_setBd) | (with_reducible apply M.var_setV) | (with_reducible refine M.var_alloc' _ _ _ ?_; first | rfl | (focus (simp [go_sem]; done))) | (with_reducible refine M.Var.alloc ?_ _) | (with_reducible refine M.Var.drewN ?_ _) | (with_reducible refine M.Var.drew ?_) | (with_reducible refine M.Var.far ?_ _ _ ?hFar; case hFar => (first | omega | ((try simp [go_sem]) <;> omega))) | fail))) (by omega) hb
           have q8_n_0 : w8.cell? ⟨w2.heap.size, 0, none⟩ = some (.int .i64 nx) := V8_n.c 0 _ rfl
           have q8_n_1 : w8.cell? ⟨w2.heap.size, 1, none⟩ = some (.int .i64 ny) := V8_n.c 1 _ rfl
           have f8_n := V8_n.2.2
           have L8_n := V8_n.lt
           have N8_n := Nat.ne_of_gt L8_n
           have M8_n := Nat.ne_of_lt L8_n
           have V8_sb : M.Var w8 (w6.heap.size) #[.int .i64 vx, .int .i64 vy] := M.var_rw (by (repeat (first | (with_reducible assumption) | (with_reducible apply M.var_set45) | (with_reducible apply M.var_setBd) | (with_reducible apply M.var_setV) | (with_reducible refine M.var_alloc' _ _ _ ?_; first | rfl | (focus (simp [go_sem]; done))) | (with_reducible refine M.Var.alloc ?_ _) | (with_reducible refine M.Var.drewN ?_ _) | (with_reducible refine M.Var.drew ?_) | (with_reducible refine M.Var.far ?_ _ _ ?hFar; case hFar => (first | omega | ((try simp [go_sem]) <;> omega))) | fail))) (by omega) hb
           have q8_sb_0 : w8.cell? ⟨w6.heap.size, 0, none⟩ = some (.int .i64 vx) := V8_sb.c 0 _ rfl
           have q8_sb_1 : w8.cell? ⟨w6.heap.size, 1, none⟩ = some (.int .i64 vy) := V8_sb.c 1 _ rfl
           have f8_sb := V8_sb.2.2
           have L8_sb := V8_sb.lt
           have N8_sb := Nat.ne_of_gt L8_sb
           have M8_sb := Nat.ne_of_lt L8_sb
           have V8_sa : M.Var w8 (w7.heap.size) #[.int .i64 ux, .int .i64 uy] := M.var_rw (by (repeat (first | (with_reducible assumption) | (with_reducible apply M.var_set45) | (with_reducible apply M.var_setBd) | (with_reducible apply M.var_setV) | (with_reducible refine M.var_alloc' _ _ _ ?_; first | rfl | (focus (simp [go_sem]; done))) | (with_reducible refine M.Var.alloc ?_ _) | (with_reducible refine M.Var.drewN ?_ _) | (with_reducible refine M.Var.drew ?_) | (with_reducible refine M.Var.far ?_ _ _ ?hFar; case hFar => (first | omega | ((try simp [go_sem]) <;> omega))) | fail))) (by omega) hb
           have q8_sa_0 : w8.cell? ⟨w7.heap.size, 0, none⟩ = some (.int .i64 ux) := V8_sa.c 0 _ rfl
           have q8_sa_1 : w8.cell? ⟨w7.heap.size, 1, none⟩ = some (.int .i64 uy) := V8_sa.c 1 _ rfl
           have f8_sa := V8_sa.2.2
           have L8_sa := V8_sa.lt
           have N8_sa := Nat.ne_of_gt L8_sa
           have M8_sa := Nat.ne_of_lt L8_sa
           clear V7_a f7_a q7_a_0 q7_a_1 q7_a_2 q7_a_3 q7_a_4 q7_a_5 q7_a_6 q7_a_7 V7_b f7_b q7_b_0 q7_b_1 q7_b_2 q7_b_3 q7_b_4 q7_b_5 q7_b_6 q7_b_7 V7_r f7_r q7_r_0 q7_r_1 q7_r_2 q7_r_3 q7_r_4 q7_r_5 q7_r_6 q7_r_7 V7_s f7_s q7_s_0 q7_s_1 q7_s_2 q7_s_3 q7_s_4 q7_s_5 q7_s_6 q7_s_7 V7_n f7_n q7_n_0 q7_n_1 V7_sb f7_sb q7_sb_0 q7_sb_1 PC7 c7_pb f7_pb
           have HR8 := Lib.hid hr; clear hr
           have c8_pb := PC8.2.1; have f8_pb := PC8.2.2; have L8_pb := PC8.1; have N8_pb := Nat.ne_of_gt L8_pb; have M8_pb := Nat.ne_of_lt L8_pb
           have HG8 := Lib.hid G8; clear G8 hb)
        | (go_at_call 80; refine (C9.out e8 _ _ _ _ iqx iqy inx iny _ (by (repeat (first | (with_reducible assumption) | (with_reducible refine M.pcell_alloc ?_ _) | (with_reducible refine M.pcell_drewN ?_ _) | (with_reducible refine M.pcell_drew ?_) | (with_reducible refine M.pcell_far ?_ _ _ ?hFar; case hFar => (first | omega | ((try simp [go_sem]) <;> omega))) | fail)))).mono ?_; rintro en w9 ⟨v, e9, rfl, iv, hr, hb⟩
           have G9 : M.RW pb e9 w w9 := M.rw_step (by have G := HG8.out; (repeat (with_reducible refine M.Below.drewN ?_ _)); go_grown) hb hpb
           have S9 : w.heap.size ≤ w9.heap.size := by have := G9.size; rwa [M.setCell_size] at this
           have PC9 : M.PCell w9 pb e9 := M.pcell_behind hb (e := e8) (by (repeat (first | (with_reducible assumption) | (with_reducible refine M.pcell_alloc ?_ _) | (with_reducible refine M.pcell_drewN ?_ _) | (with_reducible refine M.pcell_drew ?_) | (with_reducible refine M.pcell_far ?_ _ _ ?hFar; case hFar => (first | omega | ((try simp [go_sem]) <;> omega))) | fail)))
           have V9_a : M.Var w9 (w.heap.size) #[.int .i64 a.shape, .int .i64 a.sx, .int .i64 a.sy, .int .i64 a.mass, .int .i64 a.px, .int .i64 a.py, .int .i64 a.mx, .int .i64 a.my] := M.var_rw (by (repeat (first | (with_reducible assumption) | (with_reducible apply M.var_set45) | (with_reducible apply M.var_setBd) | (with_reducible apply M.var_setV) | (with_reducible refine M.var_alloc' _ _ _ ?_; first | rfl | (focus (simp [go_sem]; done))) | (with_reducible refine M.Var.alloc ?_ _) | (with_reducible refine M.Var.drewN ?_ _) | (with_reducible refine M.Var.drew ?_) | (with_reducible refine M.Var.far ?_ _ _ ?hFar; case hFar => (first | omega | ((try simp [go_sem]) <;> omega))) | fail))) (by omega) hb
           have q9_a_0 : w9.cell? ⟨w.heap.size, 0, none⟩ = some (.int .i64 a.shape) := V9_a.c 0 _ rfl
           have q9_a_1 : w9.cell? ⟨w.heap.size, 1, none⟩ = some (.int .i64 a.sx) := V9_a.c 1 _ rfl
           have q9_a_2 : w9.cell? ⟨w.heap.size, 2, none⟩ = some (.int .i64 a.sy) := V9_a.c 2 _ rfl
           have q9_a_3 : w9.cell? ⟨w.heap.size, 3, none⟩ = some (.int .i64 a.mass) := V9_a.c 3 _ rfl
           have q9_a_4 : w9.cell? ⟨w.heap.size, 4, none⟩ = some (.int .i64 a.px) := V9_a.c 4 _ rfl
           have q9_a_5 : w9.cell? ⟨w.heap.size, 5, none⟩ = some (.int .i64 a.py) := V9_a.c 5 _ rfl
           have q9_a_6 : w9.cell? ⟨w.heap.size, 6, none⟩ = some (.int .i64 a.mx) := V9_a.c 6 _ rfl
           have q9_a_7 : w9.cell? ⟨w.heap.size, 7, none⟩ = some (.int .i64 a.my) := V9_a.c 7 _ rfl
           have f9_a := V9_a.2.2
           have L9_a := V9_a.lt
           have N9_a := Nat.ne_of_gt L9_a
           have M9_a := Nat.ne_of_lt L9_a
           have V9_b : M.Var w9 (w.heap.size + 1) #[.int .i64 b.shape, .int .i64 b.sx, .int .i64 b.sy, .int .i64 b.mass, .int .i64 b.px, .int .i64 b.py, .int .i64 b.mx, .int .i64 b.my] := M.var_rw (by (repeat (first | (with_reducible assumption) | (with_reducible apply M.var_set45) | (with_reducible apply M.var_setBd) | (with_reducible apply M.var_setV) | (with_reducible refine M.var_alloc' _ _ _ ?_; first | rfl | (focus (simp [go_sem]; done))) | (with_reducible refine M.Var.alloc ?_ _) | (with_reducible refine M.Var.drewN ?_ _) | (with_reducible refine M.Var.drew ?_) | (with_reducible refine M.Var.far ?_ _ _ ?hFar; case hFar => (first | omega | ((try simp [go_sem]) <;> omega))) | fail))) (by omega) hb
           have q9_b_0 : w9.cell? ⟨w.heap.size + 1, 0, none⟩ = some (.int .i64 b.shape) := V9_b.c 0 _ rfl
           have q9_b_1 : w9.cell? ⟨w.heap.size + 1, 1, none⟩ = some (.int .i64 b.sx) := V9_b.c 1 _ rfl
           have q9_b_2 : w9.cell? ⟨w.heap.size + 1, 2, none⟩ = some (.int .i64 b.sy) := V9_b.c 2 _ rfl
           have q9_b_3 : w9.cell? ⟨w.heap.size + 1, 3, none⟩ = some (.int .i64 b.mass) := V9_b.c 3 _ rfl
           have q9_b_4 : w9.cell? ⟨w.heap.size + 1, 4, none⟩ = some (.int .i64 b.px) := V9_b.c 4 _ rfl
           have q9_b_5 : w9.cell? ⟨w.heap.size + 1, 5, none⟩ = some (.int .i64 b.py) := V9_b.c 5 _ rfl
           have q9_b_6 : w9.cell? ⟨w.heap.size + 1, 6, none⟩ = some (.int .i64 b.mx) := V9_b.c 6 _ rfl
           have q9_b_7 : w9.cell? ⟨w.heap.size + 1, 7, none⟩ = some (.int .i64 b.my) := V9_b.c 7 _ rfl
           have f9_b := V9_b.2.2
           have L9_b := V9_b.lt
           have N9_b := Nat.ne_of_gt L9_b
           have M9_b := Nat.ne_of_lt L9_b
           have V9_r : M.Var w9 (w.heap.size + 1 + 1) #[.int .i64 0, .int .i64 0, .int .i64 0, .int .i64 0, .int .i64 0, .int .i64 0, .int .i64 0, .int .i64 0] := M.var_rw (by (repeat (first | (with_reducible assumption) | (with_reducible apply M.var_set45) | (with_reducible apply M.var_setBd) | (with_reducible apply M.var_setV) | (with_reducible refine M.var_alloc' _ _ _ ?_; first | rfl | (focus (simp [go_sem]; done))) | (with_reducible refine M.Var.alloc ?_ _) | (with_reducible refine M.Var.drewN ?_ _) | (with_reducible refine M.Var.drew ?_) | (with_reducible refine M.Var.far ?_ _ _ ?hFar; case hFar => (first | omega | ((try simp [go_sem]) <;> omega))) | fail))) (by omega) hb
           have q9_r_0 : w9.cell? ⟨w.heap.size + 1 + 1, 0, none⟩ = some (.int .i64 0) := V9_r.c 0 _ rfl
           have q9_r_1 : w9.cell? ⟨w.heap.size + 1 + 1, 1, none⟩ = some (.int .i64 0) := V9_r.c 1 _ rfl
           have q9_r_2 : w9.cell? ⟨w.heap.size + 1 + 1, 2, none⟩ = some (.int .i64 0) := V9_r.c 2 _ rfl
           have q9_r_3 : w9.cell? ⟨w.heap.size + 1 + 1, 3, none⟩ = some (.int .i64 0) := V9_r.c 3 _ rfl
           have q9_r_4 : w9.cell? ⟨w.heap.size + 1 + 1, 4, none⟩ = some (.int .i64 0) := V9_r.c 4 _ rfl
           have q9_r_5 : w9.cell? ⟨w.heap.size + 1 + 1, 5, none⟩ = some (.int .i64 0) := V9_r.c 5 _ rfl
           have q9_r_6 : w9.cell? ⟨w.heap.size + 1 + 1, 6, none⟩ = some (.int .i64 0) := V9_r.c 6 _ rfl
           have q9_r_7 : w9.cell? ⟨w.heap.size + 1 + 1, 7, none⟩ = some (.int .i64 0) := V9_r.c 7 _ rfl
           have f9_r := V9_r.2.2
           have L9_r := V9_r.lt
           have N9_r := Nat.ne_of_gt L9_r
           have M9_r := Nat.ne_of_lt L9_r
           have V9_s : M.Var w9 (w.heap.size + 1 + 1 + 1) #[.int .i64 0, .int .i64 0, .int .i64 0, .int .i64 0, .int .i64 0, .int .i64 0, .int .i64 0, .int .i64 0] := M.var_rw (by (repeat (first | (with_reducible assumption) | (with_reducible apply M.var_set45) | (with_reducible apply M.var_setBd) | (with_reducible apply M.var_setV) | (with_reducible refine M.var_alloc' _ _ _ ?_; first | rfl | (focus (simp [go_sem]; done))) | (with_reducible refine M.Var.alloc ?_ _) | (with_reducible refine M.Var.drewN ?_ _) | (with_reducible refine M.Var.drew ?_) | (with_reducible refine M.Var.far ?_ _ _ ?hFar; case hFar => (first | omega | ((try simp [go_sem]) <;> omega))) | fail))) (by omega) hb
           have q9_s_0 : w9.cell? ⟨w.heap.size + 1 + 1 + 1, 0, none⟩ = some (.int .i64 0) := V9_s.c 0 _ rfl
           have q9_s_1 : w9.cell? ⟨w.heap.size + 1 + 1 + 1, 1, none⟩ = some (.int .i64 0) := V9_s.c 1 _ rfl
           have q9_s_2 : w9.cell? ⟨w.heap.size + 1 + 1 + 1, 2, none⟩ = some (.int .i64 0) := V9_s.c 2 _ rfl
           have q9_s_3 : w9.cell? ⟨w.heap.size + 1 + 1 + 1, 3, none⟩ = some (.int .i64 0) := V9_s.c 3 _ rfl
           have q9_s_4 : w9.cell? ⟨w.heap.size + 1 + 1 + 1, 4, none⟩ = some (.int .i64 0) := V9_s.c 4 _ rfl
           have q9_s_5 : w9.cell? ⟨w.heap.size + 1 + 1 + 1, 5, none⟩ = some (.int .i64 0) := V9_s.c 5 _ rfl
           have q9_s_6 : w9.cell? ⟨w.heap.size + 1 + 1 + 1, 6, none⟩ = some (.int .i64 0) := V9_s.c 6 _ rfl
           have q9_s_7 : w9.cell? ⟨w.heap.size + 1 + 1 + 1, 7, none⟩ = some (.int .i64 0) := V9_s.c 7 _ rfl
           have f9_s := V9_s.2.2
           have L9_s := V9_s.lt
           have N9_s := Nat.ne_of_gt L9_s
           have M9_s := Nat.ne_of_lt L9_s
           have V9_n : M.Var w9 (w2.heap.size) #[.int .i64 nx, .int .i64 ny] := M.var_rw (by (repeat (first | (with_reducible assumption) | (with_reducible apply M.var_set45) | (with_reducible apply M.var_setBd) | (with_reducible apply M.var_setV) | (with_reducible refine M.var_alloc' _ _ _ ?_; first | rfl | (focus (simp [go_sem]; done))) | (with_reducible refine M.Var.alloc ?_ _) | (with_reducible refine M.Var.drewN ?_ _) | (with_reducible refine M.Var.drew ?_) | (with_reducible refine M.Var.far ?_ _ _ ?hFar; case hFar => (first | omega | ((try simp [go_sem]) <;> omega))) | fail))) (by omega) hb
           have q9_n_0 : w9.cell? ⟨w2.heap.size, 0, none⟩ = some (.int .i64 nx) := V9_n.c 0 _ rfl
           have q9_n_1 : w9.cell? ⟨w2.heap.size, 1, none⟩ = some (.int .i64 ny) := V9_n.c 1 _ rfl
           have f9_n := V9_n.2.2
           have L9_n := V9_n.lt
           have N9_n := Nat.ne_of_gt L9_n
           have M9_n := Nat.ne_of_lt L9_n
           have V9_sb : M.Var w9 (w6.heap.size) #[.int .i64 vx, .int .i64 vy] := M.var_rw (by (repeat (first | (with_reducible assumption) | (with_reducible apply M.var_set45) | (with_reducible apply M.var_setBd) | (with_reducible apply M.var_setV) | (with_reducible refine M.var_alloc' _ _ _ ?_; first | rfl | (focus (simp [go_sem]; done))) | (with_reducible refine M.Var.alloc ?_ _) | (with_reducible refine M.Var.drewN ?_ _) | (with_reducible refine M.Var.drew ?_) | (with_reducible refine M.Var.far ?_ _ _ ?hFar; case hFar => (first | omega | ((try simp [go_sem]) <;> omega))) | fail))) (by omega) hb
           have q9_sb_0 : w9.cell? ⟨w6.heap.size, 0, none⟩ = some (.int .i64 vx) := V9_sb.c 0 _ rfl
           have q9_sb_1 : w9.cell? ⟨w6.heap.size, 1, none⟩ = some (.int .i64 vy) := V9_sb.c 1 _ rfl
           have f9_sb := V9_sb.2.2
           have L9_sb := V9_sb.lt
           have N9_sb := Nat.ne_of_gt L9_sb
           have M9_sb := Nat.ne_of_lt L9_sb
           have V9_sa : M.Var w9 (w7.heap.size) #[.int .i64 ux, .int .i64 uy] := M.var_rw (by (repeat (first | (with_reducible assumption) | (with_reducible apply M.var_set45) | (with_reducible apply M.var_setBd) | (with_reducible apply M.var_setV) | (with_reducible refine M.var_alloc' _ _ _ ?_; first | rfl | (focus (simp [go_sem]; done))) | (with_reducible refine M.Var.alloc ?_ _) | (with_reducible refine M.Var.drewN ?_ _) | (with_reducible refine M.Var.drew ?_) | (with_reducible refine M.Var.far ?_ _ _ ?hFar; case hFar => (first | omega | ((try simp [go_sem]) <;> omega))) | fail))) (by omega) hb
           have q9_sa_0 : w9.cell? ⟨w7.heap.size, 0, none⟩ = some (.int .i64 ux) := V9_sa.c 0 _ rfl
           have q9_sa_1 : w9.cell? ⟨w7.heap.size, 1, none⟩ = some (.int .i64 uy) := V9_sa.c 1 _ rfl
           have f9_sa := V9_sa.2.2
           have L9_sa := V9_sa.lt
           have N9_sa := Nat.ne_of_gt L9_sa
           have M9_sa := Nat.ne_of_lt L9_sa
           clear V8_a f8_a L8_a N8_a M8_a q8_a_0 q8_a_1 q8_a_2 q8_a_3 q8_a_4 q8_a_5 q8_a_6 q8_a_7 V8_b f8_b L8_b N8_b M8_b q8_b_0 q8_b_1 q8_b_2 q8_b_3 q8_b_4 q8_b_5 q8_b_6 q8_b_7 V8_r f8_r L8_r N8_r M8_r q8_r_0 q8_r_1 q8_r_2 q8_r_3 q8_r_4 q8_r_5 q8_r_6 q8_r_7 V8_s f8_s L8_s N8_s M8_s q8_s_0 q8_s_1 q8_s_2 q8_s_3 q8_s_4 q8_s_5 q8_s_6 q8_s_7 V8_n f8_n L8_n N8_n M8_n q8_n_0 q8_n_1 V8_sb f8_sb L8_sb N8_sb M8_sb q8_sb_0 q8_sb_1 V8_sa f8_sa L8_sa N8_sa M8_sa q8_sa_0 q8_sa_1 PC8 c8_pb f8_pb L8_pb N8_pb M8_pb
           have HR9 := Lib.hid hr; clear hr
           have c9_pb := PC9.2.1; have f9_pb := PC9.2.2; have L9_pb := PC9.1; have N9_pb := Nat.ne_of_gt L9_pb; have M9_pb := Nat.ne_of_lt L9_pb
           have HG9 := Lib.hid G9; clear G9 hb)
        )
      go_wp2_with (with_reducible refine M.stopPost ?_)
      have HV := Lib.hid (rel_bind HR6.out (rel_bind HR7.out (rel_bind HR8.out HR9.out)) : M.Rel e5 (speedK a b (nx, ny)) v e9)
      (with_reducible refine (CA.out e9 _ _ il hl _ (by (repeat (first | (with_reducible assumption) | (with_reducible refine M.pcell_alloc ?_ _) | (with_reducible refine M.pcell_drewN ?_ _) | (with_reducible refine M.pcell_drew ?_) | (with_reducible refine M.pcell_far ?_ _ _ ?hFar; case hFar => (first | omega | ((try simp [go_sem]) <;> omega))) | fail)))).mono ?_); rintro en w10 ⟨xs, e10, rfl, ixs, hr, hb⟩
      have G10 : M.RW pb e10 w w10 := M.rw_step (by have G := HG9.out; (repeat (with_reducible refine M.Below.drewN ?_ _)); go_grown) hb hpb
      have S10 : w.heap.size ≤ w10.heap.size := by have := G10.size; rwa [M.setCell_size] at this
      have PC10 : M.PCell w10 pb e10 := M.pcell_behind hb (e := e9) (by (repeat (first | (with_reducible assumption) | (with_reducible refine M.pcell_alloc ?_ _) | (with_reducible refine M.pcell_drewN ?_ _) | (with_reducible refine M.pcell_drew ?_) | (with_reducible refine M.pcell_far ?_ _ _ ?hFar; case hFar => (first | omega | ((try simp [go_sem]) <;> omega))) | fail)))
      have V10_a : M.Var w10 (w.heap.size) #[.int .i64 a.shape, .int .i64 a.sx, .int .i64 a.sy, .int .i64 a.mass, .int .i64 a.px, .int .i64 a.py, .int .i64 a.mx, .int .i64 a.my] := M.var_rw (by (repeat (first | (with_reducible assumption) | (with_reducible apply M.var_set45) | (with_reducible apply M.var_setBd) | (with_reducible apply M.var_setV) | (with_reducible refine M.var_alloc' _ _ _ ?_; first | rfl | (focus (simp [go_sem]; done))) | (with_reducible refine M.Var.alloc ?_ _) | (with_reducible refine M.Var.drewN ?_ _) | (with_reducible refine M.Var.drew ?_) | (with_reducible refine M.Var.far ?_ _ _ ?hFar; case hFar => (first | omega | ((try simp [go_sem]) <;> omega))) | fail))) (by omega) hb
      have q10_a_0 : w10.cell? ⟨w.heap.size, 0, none⟩ = some (.int .i64 a.shape) := V10_a.c 0 _ rfl
      have q10_a_1 : w10.cell? ⟨w.heap.size, 1, none⟩ = some (.int .i64 a.sx) := V10_a.c 1 _ rfl
      have q10_a_2 : w10.cell? ⟨w.heap.size, 2, none⟩ = some (.int .i64 a.sy) := V10_a.c 2 _ rfl
      have q10_a_3 : w10.cell? ⟨w.heap.size, 3, none⟩ = some (.int .i64 a.mass) := V10_a.c 3 _ rfl
      have q10_a_4 : w10.cell? ⟨w.heap.size, 4, none⟩ = some (.int .i64 a.px) := V10_a.c 4 _ rfl
      have q10_a_5 : w10.cell? ⟨w.heap.size, 5, none⟩ = some (.int .i64 a.py) := V10_a.c 5 _ rfl
      have q10_a_6 : w10.cell? ⟨w.heap.size, 6, none⟩ = some (.int .i64 a.mx) := V10_a.c 6 _ rfl
      have q10_a_7 : w10.cell? ⟨w.heap.size, 7, none⟩ = some (.int .i64 a.my) := V10_a.c 7 _ rfl
      have f10_a := V10_a.2.2
      have L10_a := V10_a.lt
      have N10_a := Nat.ne_of_gt L10_a
      have M10_a := Nat.ne_of_lt L10_a
      have V10_b : M.Var w10 (w.heap.size + 1) #[.int .i64 b.shape, .int .i64 b.sx, .int .i64 b.sy, .int .i64 b.mass, .int .i64 b.px, .int .i64 b.py, .int .i64 b.mx, .int .i64 b.my] := M.var_rw (by (repeat (first | (with_reducible assumption) | (with_reducible apply M.var_set45) | (with_reducible apply M.var_setBd) | (with_reducible apply M.var_setV) | (with_reducible refine M.var_alloc' _ _ _ ?_; first | rfl | (focus (simp [go_sem]; done))) | (with_reducible refine M.Var.alloc ?_ _) | (with_reducible refine M.Var.drewN ?_ _) | (with_reducible refine M.Var.drew ?_) | (with_reducible refine M.Var.far ?_ _ _ ?hFar; case hFar => (first | omega | ((try simp [go_sem]) <;> omega))) | fail))) (by omega) hb
      have q10_b_0 : w10.cell? ⟨w.heap.size + 1, 0, none⟩ = some (.int .i64 b.shape) := V10_b.c 0 _ rfl
      have q10_b_1 : w10.cell? ⟨w.heap.size + 1, 1, none⟩ = some (.int .i64 b.sx) := V10_b.c 1 _ rfl
      have q10_b_2 : w10.cell? ⟨w.heap.size + 1, 2, none⟩ = some (.int .i64 b.sy) := V10_b.c 2 _ rfl
      have q10_b_3 : w10.cell? ⟨w.heap.size + 1, 3, none⟩ = some (.int .i64 b.mass) := V10_b.c 3 _ rfl
      have q10_b_4 : w10.cell? ⟨w.heap.size + 1, 4, none⟩ = some (.int .i64 b.px) := V10_b.c 4 _ rfl
      have q10_b_5 : w10.cell? ⟨w.heap.size + 1, 5, none⟩ = some (.int .i64 b.py) := V10_b.c 5 _ rfl
      have q10_b_6 : w10.cell? ⟨w.heap.size + 1, 6, none⟩ = some (.int .i64 b.mx) := V10_b.c 6 _ rfl
      have q10_b_7 : w10.cell? ⟨w.heap.size + 1, 7, none⟩ = some (.int .i64 b.my) := V10_b.c 7 _ rfl
      have f10_b := V10_b.2.2
      have L10_b := V10_b.lt
      have N10_b := Nat.ne_of_gt L10_b
      have M10_b := Nat.ne_of_lt L10_b
      have V10_r : M.Var w10 (w.heap.size + 1 + 1) #[.int .i64 0, .int .i64 0, .int .i64 0, .int .i64 0, .int .i64 0, .int .i64 0, .int .i64 0, .int .i64 0] := M.var_rw (by (repeat (first | (with_reducible assumption) | (with_reducible apply M.var_set45) | (with_reducible apply M.var_setBd) | (with_reducible apply M.var_setV) | (with_reducible refine M.var_alloc' _ _ _ ?_; first | rfl | (focus (simp [go_sem]; done))) | (with_reducible refine M.Var.alloc ?_ _) | (with_reducible refine M.Var.drewN ?_ _) | (with_reducible refine M.Var.drew ?_) | (with_reducible refine M.Var.far ?_ _ _ ?hFar; case hFar => (first | omega | ((try simp [go_sem]) <;> omega))) | fail))) (by omega) hb
      have q10_r_0 : w10.cell? ⟨w.heap.size + 1 + 1, 0, none⟩ = some (.int .i64 0) := V10_r.c 0 _ rfl
      have q10_r_1 : w10.cell? ⟨w.heap.size + 1 + 1, 1, none⟩ = some (.int .i64 0) := V10_r.c 1 _ rfl
      have q10_r_2 : w10.cell? ⟨w.heap.size + 1 + 1, 2, none⟩ = some (.int .i64 0) := V10_r.c 2 _ rfl
      have q10_r_3 : w10.cell? ⟨w.heap.size + 1 + 1, 3, none⟩ = some (.int .i64 0) := V10_r.c 3 _ rfl
      have q10_r_4 : w10.cell? ⟨w.heap.size + 1 + 1, 4, none⟩ = some (.int .i64 0) := V10_r.c 4 _ rfl
      have q10_r_5 : w10.cell? ⟨w.heap.size + 1 + 1, 5, none⟩ = some (.int .i64 0) := V10_r.c 5 _ rfl
      have q10_r_6 : w10.cell? ⟨w.heap.size + 1 + 1, 6, none⟩ = some (.int .i64 0) := V10_r.c 6 _ rfl
      have q10_r_7 : w10.cell? ⟨w.heap.size + 1 + 1, 7, none⟩ = some (.int .i64 0) := V10_r.c 7 _ rfl
      have f10_r := V10_r.2.2
      have L10_r := V10_r.lt
      have N10_r := Nat.ne_of_gt L10_r
      have M10_r := Nat.ne_of_lt L10_r
      have V10_s : M.Var w10 (w.heap.size + 1 + 1 + 1) #[.int .i64 0, .int .i64 0, .int .i64 0, .int .i64 0, .int .i64 0, .int .i64 0, .int .i64 0, .int .i64 0] := M.var_rw (by (repeat (first | (with_reducible assumption) | (with_reducible apply M.var_set45) | (with_reducible apply M.var_setBd) | (with_reducible apply M.var_setV) | (with_reducible refine M.var_alloc' _ _ _ ?_; first | rfl | (focus (simp [go_sem]; done))) | (with_reducible refine M.Var.alloc ?_ _) | (with_reducible refine M.Var.drewN ?_ _) | (with_reducible refine M.Var.drew ?_) | (with_reducible refine M.Var.far ?_ _ _ ?hFar; case hFar => (first | omega | ((try simp [go_sem]) <;> omega))) | fail))) (by omega) hb
      have q10_s_0 : w10.cell? ⟨w.heap.size + 1 + 1 + 1, 0, none⟩ = some (.int .i64 0) := V10_s.c 0 _ rfl
      have q10_s_1 : w10.cell? ⟨w.heap.size + 1 + 1 + 1, 1, none⟩ = some (.int .i64 0) := V10_s.c 1 _ rfl
      have q10_s_2 : w10.cell? ⟨w.heap.size + 1 + 1 + 1, 2, none⟩ = some (.int .i64 0) := V10_s.c 2 _ rfl
      have q10_s_3 : w10.cell? ⟨w.heap.size + 1 + 1 + 1, 3, none⟩ = some (.int .i64 0) := V10_s.c 3 _ rfl
      have q10_s_4 : w10.cell? ⟨w.heap.size + 1 + 1 + 1, 4, none⟩ = some (.int .i64 0) := V10_s.c 4 _ rfl
      have q10_s_5 : w10.cell? ⟨w.heap.size + 1 + 1 + 1, 5, none⟩ = some (.int .i64 0) := V10_s.c 5 _ rfl
      have q10_s_6 : w10.cell? ⟨w.heap.size + 1 + 1 + 1, 6, none⟩ = some (.int .i64 0) := V10_s.c 6 _ rfl
      have q10_s_7 : w10.cell? ⟨w.heap.size + 1 + 1 + 1, 7, none⟩ = some (.int .i64 0) := V10_s.c 7 _ rfl
      have f10_s := V10_s.2.2
      have L10_s := V10_s.lt
      have N10_s := Nat.ne_of_gt L10_s
      have M10_s := Nat.ne_of_lt L10_s
      have V10_n : M.Var w10 (w2.heap.size) #[.int .i64 nx, .int .i64 ny] := M.var_rw (by (repeat (first | (with_reducible assumption) | (with_reducible apply M.var_set45) | (with_reducible apply M.var_setBd) | (with_reducible apply M.var_setV) | (with_reducible refine M.var_alloc' _ _ _ ?_; first | rfl | (focus (simp [go_sem]; done))) | (with_reducible refine M.Var.alloc ?_ _) | (with_reducible refine M.Var.drewN ?_ _) | (with_reducible refine M.Var.drew ?_) | (with_reducible refine M.Var.far ?_ _ _ ?hFar; case hFar => (first | omega | ((try simp [go_sem]) <;> omega))) | fail))) (by omega) hb
      have q10_n_0 : w10.cell? ⟨w2.heap.size, 0, none⟩ = some (.int .i64 nx) := V10_n.c 0 _ rfl
      have q10_n_1 : w10.cell? ⟨w2.heap.size, 1, none⟩ = some (.int .i64 ny) := V10_n.c 1 _ rfl
      have f10_n := V10_n.2.2
      have L10_n := V10_n.lt
      have N10_n := Nat.ne_of_gt L10_n
      have M10_n := Nat.ne_of_lt L10_n
      have V10_sb : M.Var w10 (w6.heap.size) #[.int .i64 vx, .int .i64 vy] := M.var_rw (by (repeat (first | (with_reducible assumption) | (with_reducible apply M.var_set45) | (with_reducible apply M.var_setBd) | (with_reducible apply M.var_setV) | (with_reducible refine M.var_alloc' _ _ _ ?_; first | rfl | (focus (simp [go_sem]; done))) | (with_reducible refine M.Var.alloc ?_ _) | (with_reducible refine M.Var.drewN ?_ _) | (with_reducible refine M.Var.drew ?_) | (with_reducible refine M.Var.far ?_ _ _ ?hFar; case hFar => (first | omega | ((try simp [go_sem]) <;> omega))) | fail))) (by omega) hb
      have q10_sb_0 : w10.cell? ⟨w6.heap.size, 0, none⟩ = some (.int .i64 vx) := V10_sb.c 0 _ rfl
      have q10_sb_1 : w10.cell? ⟨w6.heap.size, 1, none⟩ = some (.int .i64 vy) := V10_sb.c 1 _ rfl
      have f10_sb := V10_sb.2.2
      have L10_sb := V10_sb.lt
      have N10_sb := Nat.ne_of_gt L10_sb
      have M10_sb := Nat.ne_of_lt L10_sb
      have V10_sa : M.Var w10 (w7.heap.size) #[.int .i64 ux, .int .i64 uy] := M.var_rw (by (repeat (first | (with_reducible assumption) | (with_reducible apply M.var_set45) | (with_reducible apply M.var_setBd) | (with_reducible apply M.var_setV) | (with_reducible refine M.var_alloc' _ _ _ ?_; first | rfl | (focus (simp [go_sem]; done))) | (with_reducible refine M.Var.alloc ?_ _) | (with_reducible refine M.Var.drewN ?_ _) | (with_reducible refine M.Var.drew ?_) | (with_reducible refine M.Var.far ?_ _ _ ?hFar; case hFar => (first | omega | ((try simp [go_sem]) <;> omega))) | fail))) (by omega) hb
      have q10_sa_0 : w10.cell? ⟨w7.heap.size, 0, none⟩ = some (.int .i64 ux) := V10_sa.c 0 _ rfl
      have q10_sa_1 : w10.cell? ⟨w7.heap.size, 1, none⟩ = some (.int .i64 uy) := V10_sa.c 1 _ rfl
      have f10_sa := V10_sa.2.2
      have L10_sa := V10_sa.lt
      have N10_sa := Nat.ne_of_gt L10_sa
      have M10_sa := Nat.ne_of_lt L10_sa
      clear V9_a f9_a L9_a N9_a M9_a q9_a_0 q9_a_1 q9_a_2 q9_a_3 q9_a_4 q9_a_5 q9_a_6 q9_a_7 V9_b f9_b L9_b N9_b M9_b q9_b_0 q9_b_1 q9_b_2 q9_b_3 q9_b_4 q9_b_5 q9_b_6 q9_b_7 V9_r f9_r L9_r N9_r M9_r q9_r_0 q9_r_1 q9_r_2 q9_r_3 q9_r_4 q9_r_5 q9_r_6 q9_r_7 V9_s f9_s L9_s N9_s M9_s q9_s_0 q9_s_1 q9_s_2 q9_s_3 q9_s_4 q9_s_5 q9_s_6 q9_s_7 V9_n f9_n L9_n N9_n M9_n q9_n_0 q9_n_1 V9_sb f9_sb L9_sb N9_sb M9_sb q9_sb_0 q9_sb_1 V9_sa f9_sa L9_sa N9_sa M9_sa q9_sa_0 q9_sa_1 PC9 c9_pb f9_pb L9_pb N9_pb M9_pb
      have HR10 := Lib.hid hr; clear hr
      have c10_pb := PC10.2.1; have f10_pb := PC10.2.2; have L10_pb := PC10.1; have N10_pb := Nat.ne_of_gt L10_pb; have M10_pb := Nat.ne_of_lt L10_pb
      have HG10 := Lib.hid G10; clear G10 hb
      go_wp2_with (with_reducible refine M.stopPost ?_)
      (with_reducible refine (CB.out e10 _ _ ixs z8 _ (by (repeat (first | (with_reducible assumption) | (with_reducible refine M.pcell_alloc ?_ _) | (with_reducible refine M.pcell_drewN ?_ _) | (with_reducible refine M.pcell_drew ?_) | (with_reducible refine M.pcell_far ?_ _ _ ?hFar; case hFar => (first | omega | ((try simp [go_sem]) <;> omega))) | fail)))).mono ?_); rintro en w11 ⟨xm, e11, rfl, ixm, hr, hb⟩
      have G11 : M.RW pb e11 w w11 := M.rw_step (by have G := HG10.out; (repeat (with_reducible refine M.Below.drewN ?_ _)); go_grown) hb hpb
      have S11 : w.heap.size ≤ w11.heap.size := by have := G11.size; rwa [M.setCell_size] at this
      have PC11 : M.PCell w11 pb e11 := M.pcell_behind hb (e := e10) (by (repeat (first | (with_reducible assumption) | (with_reducible refine M.pcell_alloc ?_ _) | (with_reducible refine M.pcell_drewN ?_ _) | (with_reducible refine M.pcell_drew ?_) | (with_reducible refine M.pcell_far ?_ _ _ ?hFar; case hFar => (first | omega | ((try simp [go_sem]) <;> omega))) | fail)))
      have V11_a : M.Var w11 (w.heap.size) #[.int .i64 a.shape, .int .i64 a.sx, .int .i64 a.sy, .int .i64 a.mass, .int .i64 a.px, .int .i64 a.py, .int .i64 a.mx, .int .i64 a.my] := M.var_rw (by (repeat (first | (with_reducible assumption) | (with_reducible apply M.var_set45) | (with_reducible apply M.var_setBd) | (with_reducible apply M.var_setV) | (with_reducible refine M.var_alloc' _ _ _ ?_; first | rfl | (focus (simp [go_sem]; done))) | (with_reducible refine M.Var.alloc ?_ _) | (with_reducible refine M.Var.drewN ?_ _) | (with_reducible refine M.Var.drew ?_) | (with_reducible refine M.Var.far ?_ _ _ ?hFar; case hFar => (first | omega | ((try simp [go_sem]) <;> omega))) | fail))) (by omega) hb
      have q11_a_0 : w11.cell? ⟨w.heap.size, 0, none⟩ = some (.int .i64 a.shape) := V11_a.c 0 _ rfl
      have q11_a_1 : w11.cell? ⟨w.heap.size, 1, none⟩ = some (.int .i64 a.sx) := V11_a.c 1 _ rfl
      have q11_a_2 : w11.cell? ⟨w.heap.size, 2, none⟩ = some (.int .i64 a.sy) := V11_a.c 2 _ rfl
      have q11_a_3 : w11.cell? ⟨w.heap.size, 3, none⟩ = some (.int .i64 a.mass) := V11_a.c 3 _ rfl
      have q11_a_4 : w11.cell? ⟨w.heap.size, 4, none⟩ = some (.int .i64 a.px) := V11_a.c 4 _ rfl
      have q11_a_5 : w11.cell? ⟨w.heap.size, 5, none⟩ = some (.int .i64 a.py) := V11_a.c 5 _ rfl
      have q11_a_6 : w11.cell? ⟨w.heap.size, 6, none⟩ = some (.int .i64 a.mx) := V11_a.c 6 _ rfl
      have q11_a_7 : w11.cell? ⟨w.heap.size, 7, none⟩ = some (.int .i64 a.my) := V11_a.c 7 _ rfl
      have f11_a := V11_a.2.2
      have L11_a := V11_a.lt
      have N11_a := Nat.ne_of_gt L11_a
      have M11_a := Nat.ne_of_lt L11_a
      have V11_b : M.Var w11 (w.heap.size + 1) #[.int .i64 b.shape, .int .i64 b.sx, .int .i64 b.sy, .int .i64 b.mass, .int .i64 b.px, .int .i64 b.py, .int .i64 b.mx, .int .i64 b.my] := M.var_rw (by (repeat (first | (with_reducible assumption) | (with_reducible apply M.var_set45) | (with_reducible apply M.var_setBd) | (with_reducible apply M.var_setV) | (with_reducible refine M.var_alloc' _ _ _ ?_; first | rfl | (focus (simp [go_sem]; done))) | (with_reducible refine M.Var.alloc ?_ _) | (with_reducible refine M.Var.drewN ?_ _) | (with_reducible refine M.Var.drew ?_) | (with_reducible refine M.Var.far ?_ _ _ ?hFar; case hFar => (first | omega | ((try simp [go_sem]) <;> omega))) | fail))) (by omega) hb
      have q11_b_0 : w11.cell? ⟨w.heap.size + 1, 0, none⟩ = some (.int .i64 b.shape) := V11_b.c 0 _ rfl
      have q11_b_1 : w11.cell? ⟨w.heap.size + 1, 1, none⟩ = some (.int .i64 b.sx) := V11_b.c 1 _ rfl
      have q11_b_2 : w11.cell? ⟨w.heap.size + 1, 2, none⟩ = some (.int .i64 b.sy) := V11_b.c 2 _ rfl
      have q11_b_3 : w11.cell? ⟨w.heap.size + 1, 3, none⟩ = some (.int .i64 b.mass) := V11_b.c 3 _ rfl
      have q11_b_4 : w11.cell? ⟨w.heap.size + 1, 4, none⟩ = some (.int .i64 b.px) := V11_b.c 4 _ rfl
      have q11_b_5 : w11.cell? ⟨w.heap.size + 1, 5, none⟩ = some (.int .i64 b.py) := V11_b.c 5 _ rfl
      have q11_b_6 : w11.cell? ⟨w.heap.size + 1, 6, none⟩ = some (.int .i64 b.mx) := V11_b.c 6 _ rfl
      have q11_b_7 : w11.cell? ⟨w.heap.size + 1, 7, none⟩ = some (.int .i64 b.my) := V11_b.c 7 _ rfl
      have f11_b := V11_b.2.2
      have L11_b := V11_b.lt
      have N11_b := Nat.ne_of_gt L11_b
      have M11_b := Nat.ne_of_lt L11_b
      have V11_r : M.Var w11 (w.heap.size + 1 + 1) #[.int .i64 0, .int .i64 0, .int .i64 0, .int .i64 0, .int .i64 0, .int .i64 0, .int .i64 0, .int .i64 0] := M.var_rw (by (repeat (first | (with_reducible assumption) | (with_reducible apply M.var_set45) | (with_reducible apply M.var_setBd) | (with_reducible apply M.var_setV) | (with_reducible refine M.var_alloc' _ _ _ ?_; first | rfl | (focus (simp [go_sem]; done))) | (with_reducible refine M.Var.alloc ?_ _) | (with_reducible refine M.Var.drewN ?_ _) | (with_reducible refine M.Var.drew ?_) | (with_reducible refine M.Var.far ?_ _ _ ?hFar; case hFar => (first | omega | ((try simp [go_sem]) <;> omega))) | fail))) (by omega) hb
      have q11_r_0 : w11.cell? ⟨w.heap.size + 1 + 1, 0, none⟩ = some (.int .i64 0) := V11_r.c 0 _ rfl
      have q11_r_1 : w11.cell? ⟨w.heap.size + 1 + 1, 1, none⟩ = some (.int .i64 0) := V11_r.c 1 _ rfl
      have q11_r_2 : w11.cell? ⟨w.heap.size + 1 + 1, 2, none⟩ = some (.int .i64 0) := V11_r.c 2 _ rfl
      have q11_r_3 : w11.cell? ⟨w.heap.size + 1 + 1, 3, none⟩ = some (.int .i64 0) := V11_r.c 3 _ rfl
      have q11_r_4 : w11.cell? ⟨w.heap.size + 1 + 1, 4, none⟩ = some (.int .i64 0) := V11_r.c 4 _ rfl
      have q11_r_5 : w11.cell? ⟨w.heap.size + 1 + 1, 5, none⟩ = some (.int .i64 0) := V11_r.c 5 _ rfl
      have q11_r_6 : w11.cell? ⟨w.heap.size + 1 + 1, 6, none⟩ = some (.int .i64 0) := V11_r.c 6 _ rfl
      have q11_r_7 : w11.cell? ⟨w.heap.size + 1 + 1, 7, none⟩ = some (.int .i64 0) := V11_r.c 7 _ rfl
      have f11_r := V11_r.2.2
      have L11_r := V11_r.lt
      have N11_r := Nat.ne_of_gt L11_r
      have M11_r := Nat.ne_of_lt L11_r
      have V11_s : M.Var w11 (w.heap.size + 1 + 1 + 1) #[.int .i64 0, .int .i64 0, .int .i64 0, .int .i64 0, .int .i64 0, .int .i64 0, .int .i64 0, .int .i64 0] := M.var_rw (by (repeat (first | (with_reducible assumption) | (with_reducible apply M.var_set45) | (with_reducible apply M.var_setBd) | (with_reducible apply M.var_setV) | (with_reducible refine M.var_alloc' _ _ _ ?_; first | rfl | (focus (simp [go_sem]; done))) | (with_reducible refine M.Var.alloc ?_ _) | (with_reducible refine M.Var.drewN ?_ _) | (with_reducible refine M.Var.drew ?_) | (with_reducible refine M.Var.far ?_ _ _ ?hFar; case hFar => (first | omega | ((try simp [go_sem]) <;> omega))) | fail))) (by omega) hb
      have q11_s_0 : w11.cell? ⟨w.heap.size + 1 + 1 + 1, 0, none⟩ = some (.int .i64 0) := V11_s.c 0 _ rfl
      have q11_s_1 : w11.cell? ⟨w.heap.size + 1 + 1 + 1, 1, none⟩ = some (.int .i64 0) := V11_s.c 1 _ rfl
      have q11_s_2 : w11.cell? ⟨w.heap.size + 1 + 1 + 1, 2, none⟩ = some (.int .i64 0) := V11_s.c 2 _ rfl
      have q11_s_3 : w11.cell? ⟨w.heap.size + 1 + 1 + 1, 3, none⟩ = some (.int .i64 0) := V11_s.c 3 _ rfl
      have q11_s_4 : w11.cell? ⟨w.heap.size + 1 + 1 + 1, 4, none⟩ = some (.int .i64 0) := V11_s.c 4 _ rfl
      have q11_s_5 : w11.cell? ⟨w.heap.size + 1 + 1 + 1, 5, none⟩ = some (.int .i64 0) := V11_s.c 5 _ rfl
      have q11_s_6 : w11.cell? ⟨w.heap.size + 1 + 1 + 1, 6, none⟩ = some (.int .i64 0) := V11_s.c 6 _ rfl
      have q11_s_7 : w11.cell? ⟨w.heap.size + 1 + 1 + 1, 7, none⟩ = some (.int .i64 0) := V11_s.c 7 _ rfl
      have f11_s := V11_s.2.2
      have L11_s := V11_s.lt
      have N11_s := Nat.ne_of_gt L11_s
      have M11_s := Nat.ne_of_lt L11_s
      have V11_n : M.Var w11 (w2.heap.size) #[.int .i64 nx, .int .i64 ny] := M.var_rw (by (repeat (first | (with_reducible assumption) | (with_reducible apply M.var_set45) | (with_reducible apply M.var_setBd) | (with_reducible apply M.var_setV) | (with_reducible refine M.var_alloc' _ _ _ ?_; first | rfl | (focus (simp [go_sem]; done))) | (with_reducible refine M.Var.alloc ?_ _) | (with_reducible refine M.Var.drewN ?_ _) | (with_reducible refine M.Var.drew ?_) | (with_reducible refine M.Var.far ?_ _ _ ?hFar; case hFar => (first | omega | ((try simp [go_sem]) <;> omega))) | fail))) (by omega) hb
      have q11_n_0 : w11.cell? ⟨w2.heap.size, 0, none⟩ = some (.int .i64 nx) := V11_n.c 0 _ rfl
      have q11_n_1 : w11.cell? ⟨w2.heap.size, 1, none⟩ = some (.int .i64 ny) := V11_n.c 1 _ rfl
      have f11_n := V11_n.2.2
      have L11_n := V11_n.lt
      have N11_n := Nat.ne_of_gt L11_n
      have M11_n := Nat.ne_of_lt L11_n
      have V11_sb : M.Var w11 (w6.heap.size) #[.int .i64 vx, .int .i64 vy] := M.var_rw (by (repeat (first | (with_reducible assumption) | (with_reducible apply M.var_set45) | (with_reducible apply M.var_setBd) | (with_reducible apply M.var_setV) | (with_reducible refine M.var_alloc' _ _ _ ?_; first | rfl | (focus (simp [go_sem]; done))) | (with_reducible refine M.Var.alloc ?_ _) | (with_reducible refine M.Var.drewN ?_ _) | (with_reducible refine M.Var.drew ?_) | (with_reducible refine M.Var.far ?_ _ _ ?hFar; case hFar => (first | omega | ((try simp [go_sem]) <;> omega))) | fail))) (by omega) hb
      have q11_sb_0 : w11.cell? ⟨w6.heap.size, 0, none⟩ = some (.int .i64 vx) := V11_sb.c 0 _ rfl
      have q11_sb_1 : w11.cell? ⟨w6.heap.size, 1, none⟩ = some (.int .i64 vy) := V11_sb.c 1 _ rfl
      have f11_sb := V11_sb.2.2
      have L11_sb := V11_sb.lt
      have N11_sb := Nat.ne_of_gt L11_sb
      have M11_sb := Nat.ne_of_lt L11_sb
      have V11_sa : M.Var w11 (w7.heap.size) #[.int .i64 ux, .int .i64 uy] := M.var_rw (by (repeat (first | (with_reducible assumption) | (with_reducible apply M.var_set45) | (with_reducible apply M.var_setBd) | (with_reducible apply M.var_setV) | (with_reducible refine M.var_alloc' _ _ _ ?_; first | rfl | (focus (simp [go_sem]; done))) | (with_reducible refine M.Var.alloc ?_ _) | (with_reducible refine M.Var.drewN ?_ _) | (with_reducible refine M.Var.drew ?_) | (with_reducible refine M.Var.far ?_ _ _ ?hFar; case hFar => (first | omega | ((try simp [go_sem]) <;> omega))) | fail))) (by omega) hb
      have q11_sa_0 : w11.cell? ⟨w7.heap.size, 0, none⟩ = some (.int .i64 ux) := V11_sa.c 0 _ rfl
      have q11_sa_1 : w11.cell? ⟨w7.heap.size, 1, none⟩ = some (.int .i64 uy) := V11_sa.c 1 _ rfl
      have f11_sa := V11_sa.2.2
      have L11_sa := V11_sa.lt
      have N11_sa := Nat.ne_of_gt L11_sa
      have M11_sa := Nat.ne_of_lt L11_sa
      clear V10_a f10_a L10_a N10_a M10_a q10_a_0 q10_a_1 q10_a_2 q10_a_3 q10_a_4 q10_a_5 q10_a_6 q10_a_7 V10_b f10_b L10_b N10_b M10_b q10_b_0 q10_b_1 q10_b_2 q10_b_3 q10_b_4 q10_b_5 q10_b_6 q10_b_7 V10_r f10_r L10_r N10_r M10_r q10_r_0 q10_r_1 q10_r_2 q10_r_3 q10_r_4 q10_r_5 q10_r_6 q10_r_7 V10_s f10_s L10_s N10_s M10_s q10_s_0 q10_s_1 q10_s_2 q10_s_3 q10_s_4 q10_s_5 q10_s_6 q10_s_7 V10_n f10_n L10_n N10_n M10_n q10_n_0 q10_n_1 V10_sb f10_sb L10_sb N10_sb M10_sb q10_sb_0 q10_sb_1 V10_sa f10_sa L10_sa N10_sa M10_sa q10_sa_0 q10_sa_1 PC10 c10_pb f10_pb L10_pb N10_pb M10_pb
      have HR11 := Lib.hid hr; clear hr
      have c11_pb := PC11.2.1; have f11_pb := PC11.2.2; have L11_pb := PC11.1; have N11_pb := Nat.ne_of_gt L11_pb; have M11_pb := Nat.ne_of_lt L11_pb
      have HG11 := Lib.hid G11; clear G11 hb
      go_wp2_with (with_reducible refine M.stopPost ?_)
      (with_reducible refine (C5.out e11 _ _ iv ixm _ (by (repeat (first | (with_reducible assumption) | (with_reducible refine M.pcell_alloc ?_ _) | (with_reducible refine M.pcell_drewN ?_ _) | (with_reducible refine M.pcell_drew ?_) | (with_reducible refine M.pcell_far ?_ _ _ ?hFar; case hFar => (first | omega | ((try simp [go_sem]) <;> omega))) | fail)))).mono ?_); rintro en w12 ⟨xt, e12, rfl, ixt, hr, hb⟩
      have G12 : M.RW pb e12 w w12 := M.rw_step (by have G := HG11.out; (repeat (with_reducible refine M.Below.drewN ?_ _)); go_grown) hb hpb
      have S12 : w.heap.size ≤ w12.heap.size := by have := G12.size; rwa [M.setCell_size] at this
      have PC12 : M.PCell w12 pb e12 := M.pcell_behind hb (e := e11) (by (repeat (first | (with_reducible assumption) | (with_reducible refine M.pcell_alloc ?_ _) | (with_reducible refine M.pcell_drewN ?_ _) | (with_reducible refine M.pcell_drew ?_) | (with_reducible refine M.pcell_far ?_ _ _ ?hFar; case hFar => (first | omega | ((try simp [go_sem]) <;> omega))) | fail)))
      have V12_a : M.Var w12 (w.heap.size) #[.int .i64 a.shape, .int .i64 a.sx, .int .i64 a.sy, .int .i64 a.mass, .int .i64 a.px, .int .i64 a.py, .int .i64 a.mx, .int .i64 a.my] := M.var_rw (by (repeat (first | (with_reducible assumption) | (with_reducible apply M.var_set45) | (with_reducible apply M.var_setBd) | (with_reducible apply M.var_setV) | (with_reducible refine M.var_alloc' _ _ _ ?_; first | rfl | (focus (simp [go_sem]; done))) | (with_reducible refine M.Var.alloc ?_ _) | (with_reducible refine M.Var.drewN ?_ _) | (with_reducible refine M.Var.drew ?_) | (with_reducible refine M.Var.far ?_ _ _ ?hFar; case hFar => (first | omega | ((try simp [go_sem]) <;> omega))) | fail))) (by omega) hb
      have q12_a_0 : w12.cell? ⟨w.heap.size, 0, none⟩ = some (.int .i64 a.shape) := V12_a.c 0 _ rfl
      have q12_a_1 : w12.cell? ⟨w.heap.size, 1, none⟩ = some (.int .i64 a.sx) := V12_a.c 1 _ rfl
      have q12_a_2 : w12.cell? ⟨w.heap.size, 2, none⟩ = some (.int .i64 a.sy) := V12_a.c 2 _ rfl
      have q12_a_3 : w12.cell? ⟨w.heap.size, 3, none⟩ = some (.int .i64 a.mass) := V12_a.c 3 _ rfl
      have q12_a_4 : w12.cell? ⟨w.heap.size, 4, none⟩ = some (.int .i64 a.px) := V12_a.c 4 _ rfl
      have q12_a_5 : w12.cell? ⟨w.heap.size, 5, none⟩ = some (.int .i64 a.py) := V12_a.c 5 _ rfl
      have q12_a_6 : w12.cell? ⟨w.heap.size, 6, none⟩ = some (.int .i64 a.mx) := V12_a.c 6 _ rfl
      have q12_a_7 : w12.cell? ⟨w.heap.size, 7, none⟩ = some (.int .i64 a.my) := V12_a.c 7 _ rfl
      have f12_a := V12_a.2.2
      have L12_a := V12_a.lt
      have N12_a := Nat.ne_of_gt L12_a
      have M12_a := Nat.ne_of_lt L12_a
      have V12_b : M.Var w12 (w.heap.size + 1) #[.int .i64 b.shape, .int .i64 b.sx, .int .i64 b.sy, .int .i64 b.mass, .int .i64 b.px, .int .i64 b.py, .int .i64 b.mx, .int .i64 b.my] := M.var_rw (by (repeat (first | (with_reducible assumption) | (with_reducible apply M.var_set45) | (with_reducible apply M.var_setBd) | (with_reducible apply M.var_setV) | (with_reducible refine M.var_alloc' _ _ _ ?_; first | rfl | (focus (simp [go_sem]; done))) | (with_reducible refine M.Var.alloc ?_ _) | (with_reducible refine M.Var.drewN ?_ _) | (with_reducible refine M.Var.drew ?_) | (with_reducible refine M.Var.far ?_ _ _ ?hFar; case hFar => (first | omega | ((try simp [go_sem]) <;> omega))) | fail))) (by omega) hb
      have q12_b_0 : w12.cell? ⟨w.heap.size + 1, 0, none⟩ = some (.int .i64 b.shape) := V12_b.c 0 _ rfl
      have q12_b_1 : w12.cell? ⟨w.heap.size + 1, 1, none⟩ = some (.int .i64 b.sx) := V12_b.c 1 _ rfl
      have q12_b_2 : w12.cell? ⟨w.heap.size + 1, 2, none⟩ = some (.int .i64 b.sy) := V12_b.c 2 _ rfl
      have q12_b_3 : w12.cell? ⟨w.heap.size + 1, 3, none⟩ = some (.int .i64 b.mass) := V12_b.c 3 _ rfl
      have q12_b_4 : w12.cell? ⟨w.heap.size + 1, 4, none⟩ = some (.int .i64 b.px) := V12_b.c 4 _ rfl
      have q12_b_5 : w12.cell? ⟨w.heap.size + 1, 5, none⟩ = some (.int .i64 b.py) := V12_b.c 5 _ rfl
      have q12_b_6 : w12.cell? ⟨w.heap.size + 1, 6, none⟩ = some (.int .i64 b.mx) := V12_b.c 6 _ rfl
      have q12_b_7 : w12.cell? ⟨w.heap.size + 1, 7, none⟩ = some (.int .i64 b.my) := V12_b.c 7 _ rfl
      have f12_b := V12_b.2.2
      have L12_b := V12_b.lt
      have N12_b := Nat.ne_of_gt L12_b
      have M12_b := Nat.ne_of_lt L12_b
      have V12_r : M.Var w12 (w.heap.size + 1 + 1) #[.int .i64 0, .int .i64 0, .int .i64 0, .int .i64 0, .int .i64 0, .int .i64 0, .int .i64 0, .int .i64 0] := M.var_rw (by (repeat (first | (with_reducible assumption) | (with_reducible apply M.var_set45) | (with_reducible apply M.var_setBd) | (with_reducible apply M.var_setV) | (with_reducible refine M.var_alloc' _ _ _ ?_; first | rfl | (focus (simp [go_sem]; done))) | (with_reducible refine M.Var.alloc ?_ _) | (with_reducible refine M.Var.drewN ?_ _) | (with_reducible refine M.Var.drew ?_) | (with_reducible refine M.Var.far ?_ _ _ ?hFar; case hFar => (first | omega | ((try simp [go_sem]) <;> omega))) | fail))) (by omega) hb
      have q12_r_0 : w12.cell? ⟨w.heap.size + 1 + 1, 0, none⟩ = some (.int .i64 0) := V12_r.c 0 _ rfl
      have q12_r_1 : w12.cell? ⟨w.heap.size + 1 + 1, 1, none⟩ = some (.int .i64 0) := V12_r.c 1 _ rfl
      have q12_r_2 : w12.cell? ⟨w.heap.size + 1 + 1, 2, none⟩ = some (.int .i64 0) := V12_r.c 2 _ rfl
      have q12_r_3 : w12.cell? ⟨w.heap.size + 1 + 1, 3, none⟩ = some (.int .i64 0) := V12_r.c 3 _ rfl
      have q12_r_4 : w12.cell? ⟨w.heap.size + 1 + 1, 4, none⟩ = some (.int .i64 0) := V12_r.c 4 _ rfl
      have q12_r_5 : w12.cell? ⟨w.heap.size + 1 + 1, 5, none⟩ = some (.int .i64 0) := V12_r.c 5 _ rfl
      have q12_r_6 : w12.cell? ⟨w.heap.size + 1 + 1, 6, none⟩ = some (.int .i64 0) := V12_r.c 6 _ rfl
      have q12_r_7 : w12.cell? ⟨w.heap.size + 1 + 1, 7, none⟩ = some (.int .i64 0) := V12_r.c 7 _ rfl
      have f12_r := V12_r.2.2
      have L12_r := V12_r.lt
      have N12_r := Nat.ne_of_gt L12_r
      have M12_r := Nat.ne_of_lt L12_r
      have V12_s : M.Var w12 (w.heap.size + 1 + 1 + 1) #[.int .i64 0, .int .i64 0, .int .i64 0, .int .i64 0, .int .i64 0, .int .i64 0, .int .i64 0, .int .i64 0] := M.var_rw (by (repeat (first | (with_reducible assumption) | (with_reducible apply M.var_set45) | (with_reducible apply M.var_setBd) | (with_reducible apply M.var_setV) | (with_reducible refine M.var_alloc' _ _ _ ?_; first | rfl | (focus (simp [go_sem]; done))) | (with_reducible refine M.Var.alloc ?_ _) | (with_reducible refine M.Var.drewN ?_ _) | (with_reducible refine M.Var.drew ?_) | (with_reducible refine M.Var.far ?_ _ _ ?hFar; case hFar => (first | omega | ((try simp [go_sem]) <;> omega))) | fail))) (by omega) hb
      have q12_s_0 : w12.cell? ⟨w.heap.size + 1 + 1 + 1, 0, none⟩ = some (.int .i64 0) := V12_s.c 0 _ rfl
      have q12_s_1 : w12.cell? ⟨w.heap.size + 1 + 1 + 1, 1, none⟩ = some (.int .i64 0) := V12_s.c 1 _ rfl
      have q12_s_2 : w12.cell? ⟨w.heap.size + 1 + 1 + 1, 2, none⟩ = some (.int .i64 0) := V12_s.c 2 _ rfl
      have q12_s_3 : w12.cell? ⟨w.heap.size + 1 + 1 + 1, 3, none⟩ = some (.int .i64 0) := V12_s.c 3 _ rfl
      have q12_s_4 : w12.cell? ⟨w.heap.size + 1 + 1 + 1, 4, none⟩ = some (.int .i64 0) := V12_s.c 4 _ rfl
      have q12_s_5 : w12.cell? ⟨w.heap.size + 1 + 1 + 1, 5, none⟩ = some (.int .i64 0) := V12_s.c 5 _ rfl
      have q12_s_6 : w12.cell? ⟨w.heap.size + 1 + 1 + 1, 6, none⟩ = some (.int .i64 0) := V12_s.c 6 _ rfl
      have q12_s_7 : w12.cell? ⟨w.heap.size + 1 + 1 + 1, 7, none⟩ = some (.int .i64 0) := V12_s.c 7 _ rfl
      have f12_s := V12_s.2.2
      have L12_s := V12_s.lt
      have N12_s := Nat.ne_of_gt L12_s
      have M12_s := Nat.ne_of_lt L12_s
      have V12_n : M.Var w12 (w2.heap.size) #[.int .i64 nx, .int .i64 ny] := M.var_rw (by (repeat (first | (with_reducible assumption) | (with_reducible apply M.var_set45) | (with_reducible apply M.var_setBd) | (with_reducible apply M.var_setV) | (with_reducible refine M.var_alloc' _ _ _ ?_; first | rfl | (focus (simp [go_sem]; done))) | (with_reducible refine M.Var.alloc ?_ _) | (with_reducible refine M.Var.drewN ?_ _) | (with_reducible refine M.Var.drew ?_) | (with_reducible refine M.Var.far ?_ _ _ ?hFar; case hFar => (first | omega | ((try simp [go_sem]) <;> omega))) | fail))) (by omega) hb
      have q12_n_0 : w12.cell? ⟨w2.heap.size, 0, none⟩ = some (.int .i64 nx) := V12_n.c 0 _ rfl
      have q12_n_1 : w12.cell? ⟨w2.heap.size, 1, none⟩ = some (.int .i64 ny) := V12_n.c 1 _ rfl
      have f12_n := V12_n.2.2
      have L12_n := V12_n.lt
      have N12_n := Nat.ne_of_gt L12_n
      have M12_n := Nat.ne_of_lt L12_n
      have V12_sb : M.Var w12 (w6.heap.size) #[.int .i64 vx, .int .i64 vy] := M.var_rw (by (repeat (first | (with_reducible assumption) | (with_reducible apply M.var_set45) | (with_reducible apply M.var_setBd) | (with_reducible apply M.var_setV) | (with_reducible refine M.var_alloc' _ _ _ ?_; first | rfl | (focus (simp [go_sem]; done))) | (with_reducible refine M.Var.alloc ?_ _) | (with_reducible refine M.Var.drewN ?_ _) | (with_reducible refine M.Var.drew ?_) | (with_reducible refine M.Var.far ?_ _ _ ?hFar; case hFar => (first | omega | ((try simp [go_sem]) <;> omega))) | fail))) (by omega) hb
      have q12_sb_0 : w12.cell? ⟨w6.heap.size, 0, none⟩ = some (.int .i64 vx) := V12_sb.c 0 _ rfl
      have q12_sb_1 : w12.cell? ⟨w6.heap.size, 1, none⟩ = some (.int .i64 vy) := V12_sb.c 1 _ rfl
      have f12_sb := V12_sb.2.2
      have L12_sb := V12_sb.lt
      have N12_sb := Nat.ne_of_gt L12_sb
      have M12_sb := Nat.ne_of_lt L12_sb
      have V12_sa : M.Var w12 (w7.heap.size) #[.int .i64 ux, .int .i64 uy] := M.var_rw (by (repeat (first | (with_reducible assumption) | (with_reducible apply M.var_set45) | (with_reducible apply M.var_setBd) | (with_reducible apply M.var_setV) | (with_reducible refine M.var_alloc' _ _ _ ?_; first | rfl | (focus (simp [go_sem]; done))) | (with_reducible refine M.Var.alloc ?_ _) | (with_reducible refine M.Var.drewN ?_ _) | (with_reducible refine M.Var.drew ?_) | (with_reducible refine M.Var.far ?_ _ _ ?hFar; case hFar => (first | omega | ((try simp [go_sem]) <;> omega))) | fail))) (by omega) hb
      have q12_sa_0 : w12.cell? ⟨w7.heap.size, 0, none⟩ = some (.int .i64 ux) := V12_sa.c 0 _ rfl
      have q12_sa_1 : w12.cell? ⟨w7.heap.size, 1, none⟩ = some (.int .i64 uy) := V12_sa.c 1 _ rfl
      have f12_sa := V12_sa.2.2
      have L12_sa := V12_sa.lt
      have N12_sa := Nat.ne_of_gt L12_sa
      have M12_sa := Nat.ne_of_lt L12_sa
      clear V11_a f11_a L11_a N11_a M11_a q11_a_0 q11_a_1 q11_a_2 q11_a_3 q11_a_4 q11_a_5 q11_a_6 q11_a_7 V11_b f11_b L11_b N11_b M11_b q11_b_0 q11_b_1 q11_b_2 q11_b_3 q11_b_4 q11_b_5 q11_b_6 q11_b_7 V11_r f11_r L11_r N11_r M11_r q11_r_0 q11_r_1 q11_r_2 q11_r_3 q11_r_4 q11_r_5 q11_r_6 q11_r_7 V11_s f11_s L11_s N11_s M11_s q11_s_0 q11_s_1 q11_s_2 q11_s_3 q11_s_4 q11_s_5 q11_s_6 q11_s_7 V11_n f11_n L11_n N11_n M11_n q11_n_0 q11_n_1 V11_sb f11_sb L11_sb N11_sb M11_sb q11_sb_0 q11_sb_1 V11_sa f11_sa L11_sa N11_sa M11_sa q11_sa_0 q11_sa_1 PC11 c11_pb f11_pb L11_pb N11_pb M11_pb
      have HR12 := Lib.hid hr; clear hr
      have c12_pb := PC12.2.1; have f12_pb := PC12.2.2; have L12_pb := PC12.1; have N12_pb := Nat.ne_of_gt L12_pb; have M12_pb := Nat.ne_of_lt L12_pb
      have HG12 := Lib.hid G12; clear G12 hb
      go_wp2_with (with_reducible refine M.stopPost ?_)
      (with_reducible refine (CA.out e12 _ _ z ixt _ (by (repeat (first | (with_reducible assumption) | (with_reducible refine M.pcell_alloc ?_ _) | (with_reducible refine M.pcell_drewN ?_ _) | (with_reducible refine M.pcell_drew ?_) | (with_reducible refine M.pcell_far ?_ _ _ ?hFar; case hFar => (first | omega | ((try simp [go_sem]) <;> omega))) | fail)))).mono ?_); rintro en w13 ⟨xz, e13, rfl, ixz, hr, hb⟩
      have G13 : M.RW pb e13 w w13 := M.rw_step (by have G := HG12.out; (repeat (with_reducible refine M.Below.drewN ?_ _)); go_grown) hb hpb
      have S13 : w.heap.size ≤ w13.heap.size := by have := G13.size; rwa [M.setCell_size] at this
      have PC13 : M.PCell w13 pb e13 := M.pcell_behind hb (e := e12) (by (repeat (first | (with_reducible assumption) | (with_reducible refine M.pcell_alloc ?_ _) | (with_reducible refine M.pcell_drewN ?_ _) | (with_reducible refine M.pcell_drew ?_) | (with_reducible refine M.pcell_far ?_ _ _ ?hFar; case hFar => (first | omega | ((try simp [go_sem]) <;> omega))) | fail)))
      have V13_a : M.Var w13 (w.heap.size) #[.int .i64 a.shape, .int .i64 a.sx, .int .i64 a.sy, .int .i64 a.mass, .int .i64 a.px, .int .i64 a.py, .int .i64 a.mx, .int .i64 a.my] := M.var_rw (by (repeat (first | (with_reducible assumption) | (with_reducible apply M.var_set45) | (with_reducible apply M.var_setBd) | (with_reducible apply M.var_setV) | (with_reducible refine M.var_alloc' _ _ _ ?_; first | rfl | (focus (simp [go_sem]; done))) | (with_reducible refine M.Var.alloc ?_ _) | (with_reducible refine M.Var.drewN ?_ _) | (with_reducible refine M.Var.drew ?_) | (with_reducible refine M.Var.far ?_ _ _ ?hFar; case hFar => (first | omega | ((try simp [go_sem]) <;> omega))) | fail))) (by omega) hb
      have q13_a_0 : w13.cell? ⟨w.heap.size, 0, none⟩ = some (.int .i64 a.shape) := V13_a.c 0 _ rfl
      have q13_a_1 : w13.cell? ⟨w.heap.size, 1, none⟩ = some (.int .i64 a.sx) := V13_a.c 1 _ rfl
      have q13_a_2 : w13.cell? ⟨w.heap.size, 2, none⟩ = some (.int .i64 a.sy) := V13_a.c 2 _ rfl
      have q13_a_3 : w13.cell? ⟨w.heap.size, 3, none⟩ = some (.int .i64 a.mass) := V13_a.c 3 _ rfl
      have q13_a_4 : w13.cell? ⟨w.heap.size, 4, none⟩ = some (.int .i64 a.px) := V13_a.c 4 _ rfl
      have q13_a_5 : w13.cell? ⟨w.heap.size, 5, none⟩ = some (.int .i64 a.py) := V13_a.c 5 _ rfl
      have q13_a_6 : w13.cell? ⟨w.heap.size, 6, none⟩ = some (.int .i64 a.mx) := V13_a.c 6 _ rfl
      have q13_a_7 : w13.cell? ⟨w.heap.size, 7, none⟩ = some (.int .i64 a.my) := V13_a.c 7 _ rfl
      have f13_a := V13_a.2.2
      have L13_a := V13_a.lt
      have N13_a := Nat.ne_of_gt L13_a
      have M13_a := Nat.ne_of_lt L13_a
      have V13_b : M.Var w13 (w.heap.size + 1) #[.int .i64 b.shape, .int .i64 b.sx, .int .i64 b.sy, .int .i64 b.mass, .int .i64 b.px, .int .i64 b.py, .int .i64 b.mx, .int .i64 b.my] := M.var_rw (by (repeat (first | (with_reducible assumption) | (with_reducible apply M.var_set45) | (with_reducible apply M.var_setBd) | (with_reducible apply M.var_setV) | (with_reducible refine M.var_alloc' _ _ _ ?_; first | rfl | (focus (simp [go_sem]; done))) | (with_reducible refine M.Var.alloc ?_ _) | (with_reducible refine M.Var.drewN ?_ _) | (with_reducible refine M.Var.drew ?_) | (with_reducible refine M.Var.far ?_ _ _ ?hFar; case hFar => (first | omega | ((try simp [go_sem]) <;> omega))) | fail))) (by omega) hb
      have q13_b_0 : w13.cell? ⟨w.heap.size + 1, 0, none⟩ = some (.int .i64 b.shape) := V13_b.c 0 _ rfl
      have q13_b_1 : w13.cell? ⟨w.heap.size + 1, 1, none⟩ = some (.int .i64 b.sx) := V13_b.c 1 _ rfl
      have q13_b_2 : w13.cell? ⟨w.heap.size + 1, 2, none⟩ = some (.int .i64 b.sy) := V13_b.c 2 _ rfl
      have q13_b_3 : w13.cell? ⟨w.heap.size + 1, 3, none⟩ = some (.int .i64 b.mass) := V13_b.c 3 _ rfl
      have q13_b_4 : w13.cell? ⟨w.heap.size + 1, 4, none⟩ = some (.int .i64 b.px) := V13_b.c 4 _ rfl
      have q13_b_5 : w13.cell? ⟨w.heap.size + 1, 5, none⟩ = some (.int .i64 b.py) := V13_b.c 5 _ rfl
      have q13_b_6 : w13.cell? ⟨w.heap.size + 1, 6, none⟩ = some (.int .i64 b.mx) := V13_b.c 6 _ rfl
      have q13_b_7 : w13.cell? ⟨w.heap.size + 1, 7, none⟩ = some (.int .i64 b.my) := V13_b.c 7 _ rfl
      have f13_b := V13_b.2.2
      have L13_b := V13_b.lt
      have N13_b := Nat.ne_of_gt L13_b
      have M13_b := Nat.ne_of_lt L13_b
      have V13_r : M.Var w13 (w.heap.size + 1 + 1) #[.int .i64 0, .int .i64 0, .int .i64 0, .int .i64 0, .int .i64 0, .int .i64 0, .int .i64 0, .int .i64 0] := M.var_rw (by (repeat (first | (with_reducible assumption) | (with_reducible apply M.var_set45) | (with_reducible apply M.var_setBd) | (with_reducible apply M.var_setV) | (with_reducible refine M.var_alloc' _ _ _ ?_; first | rfl | (focus (simp [go_sem]; done))) | (with_reducible refine M.Var.alloc ?_ _) | (with_reducible refine M.Var.drewN ?_ _) | (with_reducible refine M.Var.drew ?_) | (with_reducible refine M.Var.far ?_ _ _ ?hFar; case hFar => (first | omega | ((try simp [go_sem]) <;> omega))) | fail))) (by omega) hb
      have q13_r_0 : w13.cell? ⟨w.heap.size + 1 + 1, 0, none⟩ = some (.int .i64 0) := V13_r.c 0 _ rfl
      have q13_r_1 : w13.cell? ⟨w.heap.size + 1 + 1, 1, none⟩ = some (.int .i64 0) := V13_r.c 1 _ rfl
      have q13_r_2 : w13.cell? ⟨w.heap.size + 1 + 1, 2, none⟩ = some (.int .i64 0) := V13_r.c 2 _ rfl
      have q13_r_3 : w13.cell? ⟨w.heap.size + 1 + 1, 3, none⟩ = some (.int .i64 0) := V13_r.c 3 _ rfl
      have q13_r_4 : w13.cell? ⟨w.heap.size + 1 + 1, 4, none⟩ = some (.int .i64 0) := V13_r.c 4 _ rfl
      have q13_r_5 : w13.cell? ⟨w.heap.size + 1 + 1, 5, none⟩ = some (.int .i64 0) := V13_r.c 5 _ rfl
      have q13_r_6 : w13.cell? ⟨w.heap.size + 1 + 1, 6, none⟩ = some (.int .i64 0) := V13_r.c 6 _ rfl
      have q13_r_7 : w13.cell? ⟨w.heap.size + 1 + 1, 7, none⟩ = some (.int .i64 0) := V13_r.c 7 _ rfl
      have f13_r := V13_r.2.2
      have L13_r := V13_r.lt
      have N13_r := Nat.ne_of_gt L13_r
      have M13_r := Nat.ne_of_lt L13_r
      have V13_s : M.Var w13 (w.heap.size + 1 + 1 + 1) #[.int .i64 0, .int .i64 0, .int .i64 0, .int .i64 0, .int .i64 0, .int .i64 0, .int .i64 0, .int .i64 0] := M.var_rw (by (repeat (first | (with_reducible assumption) | (with_reducible apply M.var_set45) | (with_reducible apply M.var_setBd) | (with_reducible apply M.var_setV) | (with_reducible refine M.var_alloc' _ _ _ ?_; first | rfl | (focus (simp [go_sem]; done))) | (with_reducible refine M.Var.alloc ?_ _) | (with_reducible refine M.Var.drewN ?_ _) | (with_reducible refine M.Var.drew ?_) | (with_reducible refine M.Var.far ?_ _ _ ?hFar; case hFar => (first | omega | ((try simp [go_sem]) <;> omega))) | fail))) (by omega) hb
      have q13_s_0 : w13.cell? ⟨w.heap.size + 1 + 1 + 1, 0, none⟩ = some (.int .i64 0) := V13_s.c 0 _ rfl
      have q13_s_1 : w13.cell? ⟨w.heap.size + 1 + 1 + 1, 1, none⟩ = some (.int .i64 0) := V13_s.c 1 _ rfl
      have q13_s_2 : w13.cell? ⟨w.heap.size + 1 + 1 + 1, 2, none⟩ = some (.int .i64 0) := V13_s.c 2 _ rfl
      have q13_s_3 : w13.cell? ⟨w.heap.size + 1 + 1 + 1, 3, none⟩ = some (.int .i64 0) := V13_s.c 3 _ rfl
      have q13_s_4 : w13.cell? ⟨w.heap.size + 1 + 1 + 1, 4, none⟩ = some (.int .i64 0) := V13_s.c 4 _ rfl
      have q13_s_5 : w13.cell? ⟨w.heap.size + 1 + 1 + 1, 5, none⟩ = some (.int .i64 0) := V13_s.c 5 _ rfl
      have q13_s_6 : w13.cell? ⟨w.heap.size + 1 + 1 + 1, 6, none⟩ = some (.int .i64 0) := V13_s.c 6 _ rfl
      have q13_s_7 : w13.cell? ⟨w.heap.size + 1 + 1 + 1, 7, none⟩ = some (.int .i64 0) := V13_s.c 7 _ rfl
      have f13_s := V13_s.2.2
      have L13_s := V13_s.lt
      have N13_s := Nat.ne_of_gt L13_s
      have M13_s := Nat.ne_of_lt L13_s
      have V13_n : M.Var w13 (w2.heap.size) #[.int .i64 nx, .int .i64 ny] := M.var_rw (by (repeat (first | (with_reducible assumption) | (with_reducible apply M.var_set45) | (with_reducible apply M.var_setBd) | (with_reducible apply M.var_setV) | (with_reducible refine M.var_alloc' _ _ _ ?_; first | rfl | (focus (simp [go_sem]; done))) | (with_reducible refine M.Var.alloc ?_ _) | (with_reducible refine M.Var.drewN ?_ _) | (with_reducible refine M.Var.drew ?_) | (with_reducible refine M.Var.far ?_ _ _ ?hFar; case hFar => (first | omega | ((try simp [go_sem]) <;> omega))) | fail))) (by omega) hb
      have q13_n_0 : w13.cell? ⟨w2.heap.size, 0, none⟩ = some (.int .i64 nx) := V13_n.c 0 _ rfl
      have q13_n_1 : w13.cell? ⟨w2.heap.size, 1, none⟩ = some (.int .i64 ny) := V13_n.c 1 _ rfl
      have f13_n := V13_n.2.2
      have L13_n := V13_n.lt
      have N13_n := Nat.ne_of_gt L13_n
      have M13_n := Nat.ne_of_lt L13_n
      have V13_sb : M.Var w13 (w6.heap.size) #[.int .i64 vx, .int .i64 vy] := M.var_rw (by (repeat (first | (with_reducible assumption) | (with_reducible apply M.var_set45) | (with_reducible apply M.var_setBd) | (with_reducible apply M.var_setV) | (with_reducible refine M.var_alloc' _ _ _ ?_; first | rfl | (focus (simp [go_sem]; done))) | (with_reducible refine M.Var.alloc ?_ _) | (with_reducible refine M.Var.drewN ?_ _) | (with_reducible refine M.Var.drew ?_) | (with_reducible refine M.Var.far ?_ _ _ ?hFar; case hFar => (first | omega | ((try simp [go_sem]) <;> omega))) | fail))) (by omega) hb
      have q13_sb_0 : w13.cell? ⟨w6.heap.size, 0, none⟩ = some (.int .i64 vx) := V13_sb.c 0 _ rfl
      have q13_sb_1 : w13.cell? ⟨w6.heap.size, 1, none⟩ = some (.int .i64 vy) := V13_sb.c 1 _ rfl
      have f13_sb := V13_sb.2.2
      have L13_sb := V13_sb.lt
      have N13_sb := Nat.ne_of_gt L13_sb
      have M13_sb := Nat.ne_of_lt L13_sb
      have V13_sa : M.Var w13 (w7.heap.size) #[.int .i64 ux, .int .i64 uy] := M.var_rw (by (repeat (first | (with_reducible assumption) | (with_reducible apply M.var_set45) | (with_reducible apply M.var_setBd) | (with_reducible apply M.var_setV) | (with_reducible refine M.var_alloc' _ _ _ ?_; first | rfl | (focus (simp [go_sem]; done))) | (with_reducible refine M.Var.alloc ?_ _) | (with_reducible refine M.Var.drewN ?_ _) | (with_reducible refine M.Var.drew ?_) | (with_reducible refine M.Var.far ?_ _ _ ?hFar; case hFar => (first | omega | ((try simp [go_sem]) <;> omega))) | fail))) (by omega) hb
      have q13_sa_0 : w13.cell? ⟨w7.heap.size, 0, none⟩ = some (.int .i64 ux) := V13_sa.c 0 _ rfl
      have q13_sa_1 : w13.cell? ⟨w7.heap.size, 1, none⟩ = some (.int .i64 uy) := V13_sa.c 1 _ rfl
      have f13_sa := V13_sa.2.2
      have L13_sa := V13_sa.lt
      have N13_sa := Nat.ne_of_gt L13_sa
      have M13_sa := Nat.ne_of_lt L13_sa
      clear V12_a f12_a L12_a N12_a M12_a q12_a_0 q12_a_1 q12_a_2 q12_a_3 q12_a_4 q12_a_5 q12_a_6 q12_a_7 V12_b f12_b L12_b N12_b M12_b q12_b_0 q12_b_1 q12_b_2 q12_b_3 q12_b_4 q12_b_5 q12_b_6 q12_b_7 V12_r f12_r L12_r N12_r M12_r q12_r_0 q12_r_1 q12_r_2 q12_r_3 q12_r_4 q12_r_5 q12_r_6 q12_r_7 V12_s f12_s L12_s N12_s M12_s q12_s_0 q12_s_1 q12_s_2 q12_s_3 q12_s_4 q12_s_5 q12_s_6 q12_s_7 V12_n f12_n L12_n N12_n M12_n q12_n_0 q12_n_1 V12_sb f12_sb L12_sb N12_sb M12_sb q12_sb_0 q12_sb_1 V12_sa f12_sa L12_sa N12_sa M12_sa q12_sa_0 q12_sa_1 PC12 c12_pb f12_pb L12_pb N12_pb M12_pb
      have HR13 := Lib.hid hr; clear hr
      have c13_pb := PC13.2.1; have f13_pb := PC13.2.2; have L13_pb := PC13.1; have N13_pb := Nat.ne_of_gt L13_pb; have M13_pb := Nat.ne_of_lt L13_pb
      have HG13 := Lib.hid G13; clear G13 hb
      go_wp2_with (with_reducible refine M.stopPost ?_)
      (with_reducible refine (CC.out e13 _ _ ixz ik _ (by (repeat (first | (with_reducible assumption) | (with_reducible refine M.pcell_alloc ?_ _) | (with_reducible refine M.pcell_drewN ?_ _) | (with_reducible refine M.pcell_drew ?_) | (with_reducible refine M.pcell_far ?_ _ _ ?hFar; case hFar => (first | omega | ((try simp [go_sem]) <;> omega))) | fail)))).mono ?_); rintro en w14 ⟨xj, e14, rfl, ixj, hr, hb⟩
      have G14 : M.RW pb e14 w w14 := M.rw_step (by have G := HG13.out; (repeat (with_reducible refine M.Below.drewN ?_ _)); go_grown) hb hpb
      have S14 : w.heap.size ≤ w14.heap.size := by have := G14.size; rwa [M.setCell_size] at this
      have PC14 : M.PCell w14 pb e14 := M.pcell_behind hb (e := e13) (by (repeat (first | (with_reducible assumption) | (with_reducible refine M.pcell_alloc ?_ _) | (with_reducible refine M.pcell_drewN ?_ _) | (with_reducible refine M.pcell_drew ?_) | (with_reducible refine M.pcell_far ?_ _ _ ?hFar; case hFar => (first | omega | ((try simp [go_sem]) <;> omega))) | fail)))
      have V14_a : M.Var w14 (w.heap.size) #[.int .i64 a.shape, .int .i64 a.sx, .int .i64 a.sy, .int .i64 a.mass, .int .i64 a.px, .int .i64 a.py, .int .i64 a.mx, .int .i64 a.my] := M.var_rw (by (repeat (first | (with_reducible assumption) | (with_reducible apply M.var_set45) | (with_reducible apply M.var_setBd) | (with_reducible apply M.var_setV) | (with_reducible refine M.var_alloc' _ _ _ ?_; first | rfl | (focus (simp [go_sem]; done))) | (with_reducible refine M.Var.alloc ?_ _) | (with_reducible refine M.Var.drewN ?_ _) | (with_reducible refine M.Var.drew ?_) | (with_reducible refine M.Var.far ?_ _ _ ?hFar; case hFar => (first | omega | ((try simp [go_sem]) <;> omega))) | fail))) (by omega) hb
      have q14_a_0 : w14.cell? ⟨w.heap.size, 0, none⟩ = some (.int .i64 a.shape) := V14_a.c 0 _ rfl
      have q14_a_1 : w14.cell? ⟨w.heap.size, 1, none⟩ = some (.int .i64 a.sx) := V14_a.c 1 _ rfl
      have q14_a_2 : w14.cell? ⟨w.heap.size, 2, none⟩ = some (.int .i64 a.sy) := V14_a.c 2 _ rfl
      have q14_a_3 : w14.cell? ⟨w.heap.size, 3, none⟩ = some (.int .i64 a.mass) := V14_a.c 3 _ rfl
      have q14_a_4 : w14.cell? ⟨w.heap.size, 4, none⟩ = some (.int .i64 a.px) := V14_a.c 4 _ rfl
      have q14_a_5 : w14.cell? ⟨w.heap.size, 5, none⟩ = some (.int .i64 a.py) := V14_a.c 5 _ rfl
      have q14_a_6 : w14.cell? ⟨w.heap.size, 6, none⟩ = some (.int .i64 a.mx) := V14_a.c 6 _ rfl
      have q14_a_7 : w14.cell? ⟨w.heap.size, 7, none⟩ = some (.int .i64 a.my) := V14_a.c 7 _ rfl
      have f14_a := V14_a.2.2
      have L14_a := V14_a.lt
      have N14_a := Nat.ne_of_gt L14_a
      have M14_a := Nat.ne_of_lt L14_a
      have V14_b : M.Var w14 (w.heap.size + 1) #[.int .i64 b.shape, .int .i64 b.sx, .int .i64 b.sy, .int .i64 b.mass, .int .i64 b.px, .int .i64 b.py, .int .i64 b.mx, .int .i64 b.my] := M.var_rw (by (repeat (first | (with_reducible assumption) | (with_reducible apply M.var_set45) | (with_reducible apply M.var_setBd) | (with_reducible apply M.var_setV) | (with_reducible refine M.var_alloc' _ _ _ ?_; first | rfl | (focus (simp [go_sem]; done))) | (with_reducible refine M.Var.alloc ?_ _) | (with_reducible refine M.Var.drewN ?_ _) | (with_reducible refine M.Var.drew ?_) | (with_reducible refine M.Var.far ?_ _ _ ?hFar; case hFar => (first | omega | ((try simp [go_sem]) <;> omega))) | fail))) (by omega) hb
      have q14_b_0 : w14.cell? ⟨w.heap.size + 1, 0, none⟩ = some (.int .i64 b.shape) := V14_b.c 0 _ rfl
      have q14_b_1 : w14.cell? ⟨w.heap.size + 1, 1, none⟩ = some (.int .i64 b.sx) := V14_b.c 1 _ rfl
      have q14_b_2 : w14.cell? ⟨w.heap.size + 1, 2, none⟩ = some (.int .i64 b.sy) := V14_b.c 2 _ rfl
      have q14_b_3 : w14.cell? ⟨w.heap.size + 1, 3, none⟩ = some (.int .i64 b.mass) := V14_b.c 3 _ rfl
      have q14_b_4 : w14.cell? ⟨w.heap.size + 1, 4, none⟩ = some (.int .i64 b.px) := V14_b.c 4 _ rfl
      have q14_b_5 : w14.cell? ⟨w.heap.size + 1, 5, none⟩ = some (.int .i64 b.py) := V14_b.c 5 _ rfl
      have q14_b_6 : w14.cell? ⟨w.heap.size + 1, 6, none⟩ = some (.int .i64 b.mx) := V14_b.c 6 _ rfl
      have q14_b_7 : w14.cell? ⟨w.heap.size + 1, 7, none⟩ = some (.int .i64 b.my) := V14_b.c 7 _ rfl
      have f14_b := V14_b.2.2
      have L14_b := V14_b.lt
      have N14_b := Nat.ne_of_gt L14_b
      have M14_b := Nat.ne_of_lt L14_b
      have V14_r : M.Var w14 (w.heap.size + 1 + 1) #[.int .i64 0, .int .i64 0, .int .i64 0, .int .i64 0, .int .i64 0, .int .i64 0, .int .i64 0, .int .i64 0] := M.var_rw (by (repeat (first | (with_reducible assumption) | (with_reducible apply M.var_set45) | (with_reducible apply M.var_setBd) | (with_reducible apply M.var_setV) | (with_reducible refine M.var_alloc' _ _ _ ?_; first | rfl | (focus (simp [go_sem]; done))) | (with_reducible refine M.Var.alloc ?_ _) | (with_reducible refine M.Var.drewN ?_ _) | (with_reducible refine M.Var.drew ?_) | (with_reducible refine M.Var.far ?_ _ _ ?hFar; case hFar => (first | omega | ((try simp [go_sem]) <;> omega))) | fail))) (by omega) hb
      have q14_r_0 : w14.cell? ⟨w.heap.size + 1 + 1, 0, none⟩ = some (.int .i64 0) := V14_r.c 0 _ rfl
      have q14_r_1 : w14.cell? ⟨w.heap.size + 1 + 1, 1, none⟩ = some (.int .i64 0) := V14_r.c 1 _ rfl
      have q14_r_2 : w14.cell? ⟨w.heap.size + 1 + 1, 2, none⟩ = some (.int .i64 0) := V14_r.c 2 _ rfl
      have q14_r_3 : w14.cell? ⟨w.heap.size + 1 + 1, 3, none⟩ = some (.int .i64 0) := V14_r.c 3 _ rfl
      have q14_r_4 : w14.cell? ⟨w.heap.size + 1 + 1, 4, none⟩ = some (.int .i64 0) := V14_r.c 4 _ rfl
      have q14_r_5 : w14.cell? ⟨w.heap.size + 1 + 1, 5, none⟩ = some (.int .i64 0) := V14_r.c 5 _ rfl
      have q14_r_6 : w14.cell? ⟨w.heap.size + 1 + 1, 6, none⟩ = some (.int .i64 0) := V14_r.c 6 _ rfl
      have q14_r_7 : w14.cell? ⟨w.heap.size + 1 + 1, 7, none⟩ = some (.int .i64 0) := V14_r.c 7 _ rfl
      have f14_r := V14_r.2.2
      have L14_r := V14_r.lt
      have N14_r := Nat.ne_of_gt L14_r
      have M14_r := Nat.ne_of_lt L14_r
      have V14_s : M.Var w14 (w.heap.size + 1 + 1 + 1) #[.int .i64 0, .int .i64 0, .int .i64 0, .int .i64 0, .int .i64 0, .int .i64 0, .int .i64 0, .int .i64 0] := M.var_rw (by (repeat (first | (with_reducible assumption) | (with_reducible apply M.var_set45) | (with_reducible apply M.var_setBd) | (with_reducible apply M.var_setV) | (with_reducible refine M.var_alloc' _ _ _ ?_; first | rfl | (focus (simp [go_sem]; done))) | (with_reducible refine M.Var.alloc ?_ _) | (with_reducible refine M.Var.drewN ?_ _) | (with_reducible refine M.Var.drew ?_) | (with_reducible refine M.Var.far ?_ _ _ ?hFar; case hFar => (first | omega | ((try simp [go_sem]) <;> omega))) | fail))) (by omega) hb
      have q14_s_0 : w14.cell? ⟨w.heap.size + 1 + 1 + 1, 0, none⟩ = some (.int .i64 0) := V14_s.c 0 _ rfl
      have q14_s_1 : w14.cell? ⟨w.heap.size + 1 + 1 + 1, 1, none⟩ = some (.int .i64 0) := V14_s.c 1 _ rfl
      have q14_s_2 : w14.cell? ⟨w.heap.size + 1 + 1 + 1, 2, none⟩ = some (.int .i64 0) := V14_s.c 2 _ rfl
      have q14_s_3 : w14.cell? ⟨w.heap.size + 1 + 1 + 1, 3, none⟩ = some (.int .i64 0) := V14_s.c 3 _ rfl
      have q14_s_4 : w14.cell? ⟨w.heap.size + 1 + 1 + 1, 4, none⟩ = some (.int .i64 0) := V14_s.c 4 _ rfl
      have q14_s_5 : w14.cell? ⟨w.heap.size + 1 + 1 + 1, 5, none⟩ = some (.int .i64 0) := V14_s.c 5 _ rfl
      have q14_s_6 : w14.cell? ⟨w.heap.size + 1 + 1 + 1, 6, none⟩ = some (.int .i64 0) := V14_s.c 6 _ rfl
      have q14_s_7 : w14.cell? ⟨w.heap.size + 1 + 1 + 1, 7, none⟩ = some (.int .i64 0) := V14_s.c 7 _ rfl
      have f14_s := V14_s.2.2
      have L14_s := V14_s.lt
      have N14_s := Nat.ne_of_gt L14_s
      have M14_s := Nat.ne_of_lt L14_s
      have V14_n : M.Var w14 (w2.heap.size) #[.int .i64 nx, .int .i64 ny] := M.var_rw (by (repeat (first | (with_reducible assumption) | (with_reducible apply M.var_set45) | (with_reducible apply M.var_setBd) | (with_reducible apply M.var_setV) | (with_reducible refine M.var_alloc' _ _ _ ?_; first | rfl | (focus (simp [go_sem]; done))) | (with_reducible refine M.Var.alloc ?_ _) | (with_reducible refine M.Var.drewN ?_ _) | (with_reducible refine M.Var.drew ?_) | (with_reducible refine M.Var.far ?_ _ _ ?hFar; case hFar => (first | omega | ((try simp [go_sem]) <;> omega))) | fail))) (by omega) hb
      have q14_n_0 : w14.cell? ⟨w2.heap.size, 0, none⟩ = some (.int .i64 nx) := V14_n.c 0 _ rfl
      have q14_n_1 : w14.cell? ⟨w2.heap.size, 1, none⟩ = some (.int .i64 ny) := V14_n.c 1 _ rfl
      have f14_n := V14_n.2.2
      have L14_n := V14_n.lt
      have N14_n := Nat.ne_of_gt L14_n
      have M14_n := Nat.ne_of_lt L14_n
      have V14_sb : M.Var w14 (w6.heap.size) #[.int .i64 vx, .int .i64 vy] := M.var_rw (by (repeat (first | (with_reducible assumption) | (with_reducible apply M.var_set45) | (with_reducible apply M.var_setBd) | (with_reducible apply M.var_setV) | (with_reducible refine M.var_alloc' _ _ _ ?_; first | rfl | (focus (simp [go_sem]; done))) | (with_reducible refine M.Var.alloc ?_ _) | (with_reducible refine M.Var.drewN ?_ _) | (with_reducible refine M.Var.drew ?_) | (with_reducible refine M.Var.far ?_ _ _ ?hFar; case hFar => (first | omega | ((try simp [go_sem]) <;> omega))) | fail))) (by omega) hb
      have q14_sb_0 : w14.cell? ⟨w6.heap.size, 0, none⟩ = some (.int .i64 vx) := V14_sb.c 0 _ rfl
      have q14_sb_1 : w14.cell? ⟨w6.heap.size, 1, none⟩ = some (.int .i64 vy) := V14_sb.c 1 _ rfl
      have f14_sb := V14_sb.2.2
      have L14_sb := V14_sb.lt
      have N14_sb := Nat.ne_of_gt L14_sb
      have M14_sb := Nat.ne_of_lt L14_sb
      have V14_sa : M.Var w14 (w7.heap.size) #[.int .i64 ux, .int .i64 uy] := M.var_rw (by (repeat (first | (with_reducible assumption) | (with_reducible apply M.var_set45) | (with_reducible apply M.var_setBd) | (with_reducible apply M.var_setV) | (with_reducible refine M.var_alloc' _ _ _ ?_; first | rfl | (focus (simp [go_sem]; done))) | (with_reducible refine M.Var.alloc ?_ _) | (with_reducible refine M.Var.drewN ?_ _) | (with_reducible refine M.Var.drew ?_) | (with_reducible refine M.Var.far ?_ _ _ ?hFar; case hFar => (first | omega | ((try simp [go_sem]) <;> omega))) | fail))) (by omega) hb
      have q14_sa_0 : w14.cell? ⟨w7.heap.size, 0, none⟩ = some (.int .i64 ux) := V14_sa.c 0 _ rfl
      have q14_sa_1 : w14.cell? ⟨w7.heap.size, 1, none⟩ = some (.int .i64 uy) := V14_sa.c 1 _ rfl
      have f14_sa := V14_sa.2.2
      have L14_sa := V14_sa.lt
      have N14_sa := Nat.ne_of_gt L14_sa
      have M14_sa := Nat.ne_of_lt L14_sa
      clear V13_a f13_a L13_a N13_a M13_a q13_a_0 q13_a_1 q13_a_2 q13_a_3 q13_a_4 q13_a_5 q13_a_6 q13_a_7 V13_b f13_b L13_b N13_b M13_b q13_b_0 q13_b_1 q13_b_2 q13_b_3 q13_b_4 q13_b_5 q13_b_6 q13_b_7 V13_r f13_r L13_r N13_r M13_r q13_r_0 q13_r_1 q13_r_2 q13_r_3 q13_r_4 q13_r_5 q13_r_6 q13_r_7 V13_s f13_s L13_s N13_s M13_s q13_s_0 q13_s_1 q13_s_2 q13_s_3 q13_s_4 q13_s_5 q13_s_6 q13_s_7 V13_n f13_n L13_n N13_n M13_n q13_n_0 q13_n_1 V13_sb f13_sb L13_sb N13_sb M13_sb q13_sb_0 q13_sb_1 V13_sa f13_sa L13_sa N13_sa M13_sa q13_sa_0 q13_sa_1 PC13 c13_pb f13_pb L13_pb N13_pb M13_pb
      have HR14 := Lib.hid hr; clear hr
      have c14_pb := PC14.2.1; have f14_pb := PC14.2.2; have L14_pb := PC14.1; have N14_pb := Nat.ne_of_gt L14_pb; have M14_pb := Nat.ne_of_lt L14_pb
      have HG14 := Lib.hid G14; clear G14 hb
      go_wp2_with (with_reducible refine M.stopPost ?_)
      refine wp_region_till (S := fun sT wT' => Hid (M.Var wT' (w.heap.size) #[.int .i64 a.shape, .int .i64 a.sx, .int .i64 a.sy, .int .i64 a.mass, .int .i64 a.px, .int .i64 a.py, .int .i64 a.mx, .int .i64 a.my] ∧ M.Var wT' (w.heap.size + 1) #[.int .i64 b.shape, .int .i64 b.sx, .int .i64 b.sy, .int .i64 b.mass, .int .i64 b.px, .int .i64 b.py, .int .i64 b.mx, .int .i64 b.my] ∧ M.Var wT' (w2.heap.size) #[.int .i64 nx, .int .i64 ny] ∧ True)) (by kernel_rfl) (Lib.hid ⟨(by (repeat (first | (with_reducible assumption) | (with_reducible apply M.var_set45) | (with_reducible apply M.var_setBd) | (with_reducible apply M.var_setV) | (with_reducible refine M.var_alloc' _ _ _ ?_; first | rfl | (focus (simp [go_sem]; done))) | (with_reducible refine M.Var.alloc ?_ _) | (with_reducible refine M.Var.drewN ?_ _) | (with_reducible refine M.Var.drew ?_) | (with_reducible refine M.Var.far ?_ _ _ ?hFar; case hFar => (first | omega | ((try simp [go_sem]) <;> omega))) | fail))), (by (repeat (first | (with_reducible assumption) | (with_reducible apply M.var_set45) | (with_reducible apply M.var_setBd) | (with_reducible apply M.var_setV) | (with_reducible refine M.var_alloc' _ _ _ ?_; first | rfl | (focus (simp [go_sem]; done))) | (with_reducible refine M.Var.alloc ?_ _) | (with_reducible refine M.Var.drewN ?_ _) | (with_reducible refine M.Var.drew ?_) | (with_reducible refine M.Var.far ?_ _ _ ?hFar; case hFar => (first | omega | ((try simp [go_sem]) <;> omega))) | fail))), (by (repeat (first | (with_reducible assumption) | (with_reducible apply M.var_set45) | (with_reducible apply M.var_setBd) | (with_reducible apply M.var_setV) | (with_reducible refine M.var_alloc' _ _ _ ?_; first | rfl | (focus (simp [go_sem]; done))) | (with_reducible refine M.Var.alloc ?_ _) | (with_reducible refine M.Var.drewN ?_ _) | (with_reducible refine M.Var.drew ?_) | (with_reducible refine M.Var.far ?_ _ _ ?hFar; case hFar => (first | omega | ((try simp [go_sem]) <;> omega))) | fail))), trivial⟩) ?_
      intro hTb hTS
      refine wpTill_take (i := 0) (v := ?_) rfl (by kernel_rfl) (by kernel_rfl) (by kernel_rfl) hTb (fun _ _ _ h => h) (fun _ _ => Iff.rfl) (Or.inl ⟨by rfl, ?_⟩) hTS ?_
      rotate_left
      · intro wT hT; clear hT
        go_simp
        all_goals with_reducible rfl
      clear hTb hTS; intro hTb hTS
      try simp only [Act.put, List.setIfInBounds_toArray, List.set_cons_zero, List.set_cons_succ]
      refine wpTill_take (i := 1) (v := ?_) rfl (by kernel_rfl) (by kernel_rfl) (by kernel_rfl) hTb (fun _ _ _ h => h) (fun _ _ => Iff.rfl) (Or.inl ⟨by rfl, ?_⟩) hTS ?_
      rotate_left
      · rintro wT ⟨sT, hbT, huT, hST⟩
        have zT_a_0 := hST.out.1.c 0 _ rfl
        have zT_a_1 := hST.out.1.c 1 _ rfl
        have zT_a_2 := hST.out.1.c 2 _ rfl
        have zT_a_3 := hST.out.1.c 3 _ rfl
        have zT_a_4 := hST.out.1.c 4 _ rfl
        have zT_a_5 := hST.out.1.c 5 _ rfl
        have zT_a_6 := hST.out.1.c 6 _ rfl
        have zT_a_7 := hST.out.1.c 7 _ rfl
        have zT_b_0 := hST.out.2.1.c 0 _ rfl
        have zT_b_1 := hST.out.2.1.c 1 _ rfl
        have zT_b_2 := hST.out.2.1.c 2 _ rfl
        have zT_b_3 := hST.out.2.1.c 3 _ rfl
        have zT_b_4 := hST.out.2.1.c 4 _ rfl
        have zT_b_5 := hST.out.2.1.c 5 _ rfl
        have zT_b_6 := hST.out.2.1.c 6 _ rfl
        have zT_b_7 := hST.out.2.1.c 7 _ rfl
        have zT_n_0 := hST.out.2.2.1.c 0 _ rfl
        have zT_n_1 := hST.out.2.2.1.c 1 _ rfl
        clear hST hbT huT
        go_simp
        all_goals with_reducible rfl
      clear hTb hTS; intro hTb hTS
      try simp only [Act.put, List.setIfInBounds_toArray, List.set_cons_zero, List.set_cons_succ]
      refine wpTill_take (i := 2) (v := ?_) rfl (by kernel_rfl) (by kernel_rfl) (by kernel_rfl) hTb (fun _ _ _ h => h) (fun _ _ => Iff.rfl) (Or.inl ⟨by rfl, ?_⟩) hTS ?_
      rotate_left
      · rintro wT ⟨sT, hbT, huT, hST⟩
        have zT_a_0 := hST.out.1.c 0 _ rfl
        have zT_a_1 := hST.out.1.c 1 _ rfl
        have zT_a_2 := hST.out.1.c 2 _ rfl
        have zT_a_3 := hST.out.1.c 3 _ rfl
        have zT_a_4 := hST.out.1.c 4 _ rfl
        have zT_a_5 := hST.out.1.c 5 _ rfl
        have zT_a_6 := hST.out.1.c 6 _ rfl
        have zT_a_7 := hST.out.1.c 7 _ rfl
        have zT_b_0 := hST.out.2.1.c 0 _ rfl
        have zT_b_1 := hST.out.2.1.c 1 _ rfl
        have zT_b_2 := hST.out.2.1.c 2 _ rfl
        have zT_b_3 := hST.out.2.1.c 3 _ rfl
        have zT_b_4 := hST.out.2.1.c 4 _ rfl
        have zT_b_5 := hST.out.2.1.c 5 _ rfl
        have zT_b_6 := hST.out.2.1.c 6 _ rfl
        have zT_b_7 := hST.out.2.1.c 7 _ rfl
        have zT_n_0 := hST.out.2.2.1.c 0 _ rfl
        have zT_n_1 := hST.out.2.2.1.c 1 _ rfl
        clear hST hbT huT
        go_simp
        all_goals with_reducible rfl
      clear hTb hTS; intro hTb hTS
      try simp only [Act.put, List.setIfInBounds_toArray, List.set_cons_zero, List.set_cons_succ]
      refine wpTill_take (i := 3) (v := ?_) rfl (by kernel_rfl) (by kernel_rfl) (by kernel_rfl) hTb (fun _ _ _ h => h) (fun _ _ => Iff.rfl) (Or.inl ⟨by rfl, ?_⟩) hTS ?_
      rotate_left
      · intro wT hT; clear hT
        go_simp
        all_goals with_reducible rfl
      clear hTb hTS; intro hTb hTS
      try simp only [Act.put, List.setIfInBounds_toArray, List.set_cons_zero, List.set_cons_succ]
      refine wpTill_take (i := 4) (v := ?_) rfl (by kernel_rfl) (by kernel_rfl) (by kernel_rfl) hTb (fun _ _ _ h => h) (fun _ _ => Iff.rfl) (Or.inl ⟨by rfl, ?_⟩) hTS ?_
      rotate_left
      · rintro wT ⟨sT, hbT, huT, hST⟩
        have zT_a_0 := hST.out.1.c 0 _ rfl
        have zT_a_1 := hST.out.1.c 1 _ rfl
        have zT_a_2 := hST.out.1.c 2 _ rfl
        have zT_a_3 := hST.out.1.c 3 _ rfl
        have zT_a_4 := hST.out.1.c 4 _ rfl
        have zT_a_5 := hST.out.1.c 5 _ rfl
        have zT_a_6 := hST.out.1.c 6 _ rfl
        have zT_a_7 := hST.out.1.c 7 _ rfl
        have zT_b_0 := hST.out.2.1.c 0 _ rfl
        have zT_b_1 := hST.out.2.1.c 1 _ rfl
        have zT_b_2 := hST.out.2.1.c 2 _ rfl
        have zT_b_3 := hST.out.2.1.c 3 _ rfl
        have zT_b_4 := hST.out.2.1.c 4 _ rfl
        have zT_b_5 := hST.out.2.1.c 5 _ rfl
        have zT_b_6 := hST.out.2.1.c 6 _ rfl
        have zT_b_7 := hST.out.2.1.c 7 _ rfl
        have zT_n_0 := hST.out.2.2.1.c 0 _ rfl
        have zT_n_1 := hST.out.2.2.1.c 1 _ rfl
        clear hST hbT huT
        go_simp
        all_goals with_reducible rfl
      clear hTb hTS; intro hTb hTS
      try simp only [Act.put, List.setIfInBounds_toArray, List.set_cons_zero, List.set_cons_succ]
      refine wpTill_take (i := 5) (v := ?_) rfl (by kernel_rfl) (by kernel_rfl) (by kernel_rfl) hTb (fun _ _ _ h => h) (fun _ _ => Iff.rfl) (Or.inl ⟨by rfl, ?_⟩) hTS ?_
      rotate_left
      · intro wT hT; clear hT
        go_simp
        all_goals with_reducible rfl
      clear hTb hTS; intro hTb hTS
      try simp only [Act.put, List.setIfInBounds_toArray, List.set_cons_zero, List.set_cons_succ]
      refine wpTill_one (i := 6) (by kernel_rfl) rfl hTb (fun K hK => ?_)
      go_simp
      (with_reducible refine (CD.out e14 _ _ _ inx iny ixj _ (by (repeat (first | (with_reducible assumption) | (with_reducible refine M.pcell_alloc ?_ _) | (with_reducible refine M.pcell_drewN ?_ _) | (with_reducible refine M.pcell_drew ?_) | (with_reducible refine M.pcell_far ?_ _ _ ?hFar; case hFar => (first | omega | ((try simp [go_sem]) <;> omega))) | fail)))).mono ?_); rintro en w15 ⟨gx, gy, e15, rfl, igx, igy, hr, hb⟩
      have G15 : M.RW pb e15 w w15 := M.rw_step (by have G := HG14.out; (repeat (with_reducible refine M.Below.drewN ?_ _)); go_grown) hb hpb
      have S15 : w.heap.size ≤ w15.heap.size := by have := G15.size; rwa [M.setCell_size] at this
      have PC15 : M.PCell w15 pb e15 := M.pcell_behind hb (e := e14) (by (repeat (first | (with_reducible assumption) | (with_reducible refine M.pcell_alloc ?_ _) | (with_reducible refine M.pcell_drewN ?_ _) | (with_reducible refine M.pcell_drew ?_) | (with_reducible refine M.pcell_far ?_ _ _ ?hFar; case hFar => (first | omega | ((try simp [go_sem]) <;> omega))) | fail)))
      have V15_a : M.Var w15 (w.heap.size) #[.int .i64 a.shape, .int .i64 a.sx, .int .i64 a.sy, .int .i64 a.mass, .int .i64 a.px, .int .i64 a.py, .int .i64 a.mx, .int .i64 a.my] := M.var_rw (by (repeat (first | (with_reducible assumption) | (with_reducible apply M.var_set45) | (with_reducible apply M.var_setBd) | (with_reducible apply M.var_setV) | (with_reducible refine M.var_alloc' _ _ _ ?_; first | rfl | (focus (simp [go_sem]; done))) | (with_reducible refine M.Var.alloc ?_ _) | (with_reducible refine M.Var.drewN ?_ _) | (with_reducible refine M.Var.drew ?_) | (with_reducible refine M.Var.far ?_ _ _ ?hFar; case hFar => (first | omega | ((try simp [go_sem]) <;> omega))) | fail))) (by omega) hb
      have q15_a_0 : w15.cell? ⟨w.heap.size, 0, none⟩ = some (.int .i64 a.shape) := V15_a.c 0 _ rfl
      have q15_a_1 : w15.cell? ⟨w.heap.size, 1, none⟩ = some (.int .i64 a.sx) := V15_a.c 1 _ rfl
      have q15_a_2 : w15.cell? ⟨w.heap.size, 2, none⟩ = some (.int .i64 a.sy) := V15_a.c 2 _ rfl
      have q15_a_3 : w15.cell? ⟨w.heap.size, 3, none⟩ = some (.int .i64 a.mass) := V15_a.c 3 _ rfl
      have q15_a_4 : w15.cell? ⟨w.heap.size, 4, none⟩ = some (.int .i64 a.px) := V15_a.c 4 _ rfl
      have q15_a_5 : w15.cell? ⟨w.heap.size, 5, none⟩ = some (.int .i64 a.py) := V15_a.c 5 _ rfl
      have q15_a_6 : w15.cell? ⟨w.heap.size, 6, none⟩ = some (.int .i64 a.mx) := V15_a.c 6 _ rfl
      have q15_a_7 : w15.cell? ⟨w.heap.size, 7, none⟩ = some (.int .i64 a.my) := V15_a.c 7 _ rfl
      have f15_a := V15_a.2.2
      have L15_a := V15_a.lt
      have N15_a := Nat.ne_of_gt L15_a
      have M15_a := Nat.ne_of_lt L15_a
      have V15_b : M.Var w15 (w.heap.size + 1) #[.int .i64 b.shape, .int .i64 b.sx, .int .i64 b.sy, .int .i64 b.mass, .int .i64 b.px, .int .i64 b.py, .int .i64 b.mx, .int .i64 b.my] := M.var_rw (by (repeat (first | (with_reducible assumption) | (with_reducible apply M.var_set45) | (with_reducible apply M.var_setBd) | (with_reducible apply M.var_setV) | (with_reducible refine M.var_alloc' _ _ _ ?_; first | rfl | (focus (simp [go_sem]; done))) | (with_reducible refine M.Var.alloc ?_ _) | (with_reducible refine M.Var.drewN ?_ _) | (with_reducible refine M.Var.drew ?_) | (with_reducible refine M.Var.far ?_ _ _ ?hFar; case hFar => (first | omega | ((try simp [go_sem]) <;> omega))) | fail))) (by omega) hb
      have q15_b_0 : w15.cell? ⟨w.heap.size + 1, 0, none⟩ = some (.int .i64 b.shape) := V15_b.c 0 _ rfl
      have q15_b_1 : w15.cell? ⟨w.heap.size + 1, 1, none⟩ = some (.int .i64 b.sx) := V15_b.c 1 _ rfl
      have q15_b_2 : w15.cell? ⟨w.heap.size + 1, 2, none⟩ = some (.int .i64 b.sy) := V15_b.c 2 _ rfl
      have q15_b_3 : w15.cell? ⟨w.heap.size + 1, 3, none⟩ = some (.int .i64 b.mass) := V15_b.c 3 _ rfl
      have q15_b_4 : w15.cell? ⟨w.heap.size + 1, 4, none⟩ = some (.int .i64 b.px) := V15_b.c 4 _ rfl
      have q15_b_5 : w15.cell? ⟨w.heap.size + 1, 5, none⟩ = some (.int .i64 b.py) := V15_b.c 5 _ rfl
      have q15_b_6 : w15.cell? ⟨w.heap.size + 1, 6, none⟩ = some (.int .i64 b.mx) := V15_b.c 6 _ rfl
      have q15_b_7 : w15.cell? ⟨w.heap.size + 1, 7, none⟩ = some (.int .i64 b.my) := V15_b.c 7 _ rfl
      have f15_b := V15_b.2.2
      have L15_b := V15_b.lt
      have N15_b := Nat.ne_of_gt L15_b
      have M15_b := Nat.ne_of_lt L15_b
      have V15_r : M.Var w15 (w.heap.size + 1 + 1) #[.int .i64 0, .int .i64 0, .int .i64 0, .int .i64 0, .int .i64 0, .int .i64 0, .int .i64 0, .int .i64 0] := M.var_rw (by (repeat (first | (with_reducible assumption) | (with_reducible apply M.var_set45) | (with_reducible apply M.var_setBd) | (with_reducible apply M.var_setV) | (with_reducible refine M.var_alloc' _ _ _ ?_; first | rfl | (focus (simp [go_sem]; done))) | (with_reducible refine M.Var.alloc ?_ _) | (with_reducible refine M.Var.drewN ?_ _) | (with_reducible refine M.Var.drew ?_) | (with_reducible refine M.Var.far ?_ _ _ ?hFar; case hFar => (first | omega | ((try simp [go_sem]) <;> omega))) | fail))) (by omega) hb
      have q15_r_0 : w15.cell? ⟨w.heap.size + 1 + 1, 0, none⟩ = some (.int .i64 0) := V15_r.c 0 _ rfl
      have q15_r_1 : w15.cell? ⟨w.heap.size + 1 + 1, 1, none⟩ = some (.int .i64 0) := V15_r.c 1 _ rfl
      have q15_r_2 : w15.cell? ⟨w.heap.size + 1 + 1, 2, none⟩ = some (.int .i64 0) := V15_r.c 2 _ rfl
      have q15_r_3 : w15.cell? ⟨w.heap.size + 1 + 1, 3, none⟩ = some (.int .i64 0) := V15_r.c 3 _ rfl
      have q15_r_4 : w15.cell? ⟨w.heap.size + 1 + 1, 4, none⟩ = some (.int .i64 0) := V15_r.c 4 _ rfl
      have q15_r_5 : w15.cell? ⟨w.heap.size + 1 + 1, 5, none⟩ = some (.int .i64 0) := V15_r.c 5 _ rfl
      have q15_r_6 : w15.cell? ⟨w.heap.size + 1 + 1, 6, none⟩ = some (.int .i64 0) := V15_r.c 6 _ rfl
      have q15_r_7 : w15.cell? ⟨w.heap.size + 1 + 1, 7, none⟩ = some (.int .i64 0) := V15_r.c 7 _ rfl
      have f15_r := V15_r.2.2
      have L15_r := V15_r.lt
      have N15_r := Nat.ne_of_gt L15_r
      have M15_r := Nat.ne_of_lt L15_r
      have V15_s : M.Var w15 (w.heap.size + 1 + 1 + 1) #[.int .i64 0, .int .i64 0, .int .i64 0, .int .i64 0, .int .i64 0, .int .i64 0, .int .i64 0, .int .i64 0] := M.var_rw (by (repeat (first | (with_reducible assumption) | (with_reducible apply M.var_set45) | (with_reducible apply M.var_setBd) | (with_reducible apply M.var_setV) | (with_reducible refine M.var_alloc' _ _ _ ?_; first | rfl | (focus (simp [go_sem]; done))) | (with_reducible refine M.Var.alloc ?_ _) | (with_reducible refine M.Var.drewN ?_ _) | (with_reducible refine M.Var.drew ?_) | (with_reducible refine M.Var.far ?_ _ _ ?hFar; case hFar => (first | omega | ((try simp [go_sem]) <;> omega))) | fail))) (by omega) hb
      have q15_s_0 : w15.cell? ⟨w.heap.size + 1 + 1 + 1, 0, none⟩ = some (.int .i64 0) := V15_s.c 0 _ rfl
      have q15_s_1 : w15.cell? ⟨w.heap.size + 1 + 1 + 1, 1, none⟩ = some (.int .i64 0) := V15_s.c 1 _ rfl
      have q15_s_2 : w15.cell? ⟨w.heap.size + 1 + 1 + 1, 2, none⟩ = some (.int .i64 0) := V15_s.c 2 _ rfl
      have q15_s_3 : w15.cell? ⟨w.heap.size + 1 + 1 + 1, 3, none⟩ = some (.int .i64 0) := V15_s.c 3 _ rfl
      have q15_s_4 : w15.cell? ⟨w.heap.size + 1 + 1 + 1, 4, none⟩ = some (.int .i64 0) := V15_s.c 4 _ rfl
      have q15_s_5 : w15.cell? ⟨w.heap.size + 1 + 1 + 1, 5, none⟩ = some (.int .i64 0) := V15_s.c 5 _ rfl
      have q15_s_6 : w15.cell? ⟨w.heap.size + 1 + 1 + 1, 6, none⟩ = some (.int .i64 0) := V15_s.c 6 _ rfl
      have q15_s_7 : w15.cell? ⟨w.heap.size + 1 + 1 + 1, 7, none⟩ = some (.int .i64 0) := V15_s.c 7 _ rfl
      have f15_s := V15_s.2.2
      have L15_s := V15_s.lt
      have N15_s := Nat.ne_of_gt L15_s
      have M15_s := Nat.ne_of_lt L15_s
      have V15_n : M.Var w15 (w2.heap.size) #[.int .i64 nx, .int .i64 ny] := M.var_rw (by (repeat (first | (with_reducible assumption) | (with_reducible apply M.var_set45) | (with_reducible apply M.var_setBd) | (with_reducible apply M.var_setV) | (with_reducible refine M.var_alloc' _ _ _ ?_; first | rfl | (focus (simp [go_sem]; done))) | (with_reducible refine M.Var.alloc ?_ _) | (with_reducible refine M.Var.drewN ?_ _) | (with_reducible refine M.Var.drew ?_) | (with_reducible refine M.Var.far ?_ _ _ ?hFar; case hFar => (first | omega | ((try simp [go_sem]) <;> omega))) | fail))) (by omega) hb
      have q15_n_0 : w15.cell? ⟨w2.heap.size, 0, none⟩ = some (.int .i64 nx) := V15_n.c 0 _ rfl
      have q15_n_1 : w15.cell? ⟨w2.heap.size, 1, none⟩ = some (.int .i64 ny) := V15_n.c 1 _ rfl
      have f15_n := V15_n.2.2
      have L15_n := V15_n.lt
      have N15_n := Nat.ne_of_gt L15_n
      have M15_n := Nat.ne_of_lt L15_n
      have V15_sb : M.Var w15 (w6.heap.size) #[.int .i64 vx, .int .i64 vy] := M.var_rw (by (repeat (first | (with_reducible assumption) | (with_reducible apply M.var_set45) | (with_reducible apply M.var_setBd) | (with_reducible apply M.var_setV) | (with_reducible refine M.var_alloc' _ _ _ ?_; first | rfl | (focus (simp [go_sem]; done))) | (with_reducible refine M.Var.alloc ?_ _) | (with_reducible refine M.Var.drewN ?_ _) | (with_reducible refine M.Var.drew ?_) | (with_reducible refine M.Var.far ?_ _ _ ?hFar; case hFar => (first | omega | ((try simp [go_sem]) <;> omega))) | fail))) (by omega) hb
      have q15_sb_0 : w15.cell? ⟨w6.heap.size, 0, none⟩ = some (.int .i64 vx) := V15_sb.c 0 _ rfl
      have q15_sb_1 : w15.cell? ⟨w6.heap.size, 1, none⟩ = some (.int .i64 vy) := V15_sb.c 1 _ rfl
      have f15_sb := V15_sb.2.2
      have L15_sb := V15_sb.lt
      have N15_sb := Nat.ne_of_gt L15_sb
      have M15_sb := Nat.ne_of_lt L15_sb
      have V15_sa : M.Var w15 (w7.heap.size) #[.int .i64 ux, .int .i64 uy] := M.var_rw (by (repeat (first | (with_reducible assumption) | (with_reducible apply M.var_set45) | (with_reducible apply M.var_setBd) | (with_reducible apply M.var_setV) | (with_reducible refine M.var_alloc' _ _ _ ?_; first | rfl | (focus (simp [go_sem]; done))) | (with_reducible refine M.Var.alloc ?_ _) | (with_reducible refine M.Var.drewN ?_ _) | (with_reducible refine M.Var.drew ?_) | (with_reducible refine M.Var.far ?_ _ _ ?hFar; case hFar => (first | omega | ((try simp [go_sem]) <;> omega))) | fail))) (by omega) hb
      have q15_sa_0 : w15.cell? ⟨w7.heap.size, 0, none⟩ = some (.int .i64 ux) := V15_sa.c 0 _ rfl
      have q15_sa_1 : w15.cell? ⟨w7.heap.size, 1, none⟩ = some (.int .i64 uy) := V15_sa.c 1 _ rfl
      have f15_sa := V15_sa.2.2
      have L15_sa := V15_sa.lt
      have N15_sa := Nat.ne_of_gt L15_sa
      have M15_sa := Nat.ne_of_lt L15_sa
      clear V14_a f14_a L14_a N14_a M14_a q14_a_0 q14_a_1 q14_a_2 q14_a_3 q14_a_4 q14_a_5 q14_a_6 q14_a_7 V14_b f14_b L14_b N14_b M14_b q14_b_0 q14_b_1 q14_b_2 q14_b_3 q14_b_4 q14_b_5 q14_b_6 q14_b_7 V14_r f14_r L14_r N14_r M14_r q14_r_0 q14_r_1 q14_r_2 q14_r_3 q14_r_4 q14_r_5 q14_r_6 q14_r_7 V14_s f14_s L14_s N14_s M14_s q14_s_0 q14_s_1 q14_s_2 q14_s_3 q14_s_4 q14_s_5 q14_s_6 q14_s_7 V14_n f14_n L14_n N14_n M14_n q14_n_0 q14_n_1 V14_sb f14_sb L14_sb N14_sb M14_sb q14_sb_0 q14_sb_1 V14_sa f14_sa L14_sa N14_sa M14_sa q14_sa_0 q14_sa_1 PC14 c14_pb f14_pb L14_pb N14_pb M14_pb
      have HR15 := Lib.hid hr; clear hr
      have c15_pb := PC15.2.1; have f15_pb := PC15.2.2; have L15_pb := PC15.1; have N15_pb := Nat.ne_of_gt L15_pb; have M15_pb := Nat.ne_of_lt L15_pb
      have HG15 := Lib.hid G15; clear G15 hb
      (try go_simp)
      refine hK.out _ _ (Lib.hid ⟨(by (repeat (first | (with_reducible assumption) | (with_reducible apply M.var_set45) | (with_reducible apply M.var_setBd) | (with_reducible apply M.var_setV) | (with_reducible refine M.var_alloc' _ _ _ ?_; first | rfl | (focus (simp [go_sem]; done))) | (with_reducible refine M.Var.alloc ?_ _) | (with_reducible refine M.Var.drewN ?_ _) | (with_reducible refine M.Var.drew ?_) | (with_reducible refine M.Var.far ?_ _ _ ?hFar; case hFar => (first | omega | ((try simp [go_sem]) <;> omega))) | fail))), (by (repeat (first | (with_reducible assumption) | (with_reducible apply M.var_set45) | (with_reducible apply M.var_setBd) | (with_reducible apply M.var_setV) | (with_reducible refine M.var_alloc' _ _ _ ?_; first | rfl | (focus (simp [go_sem]; done))) | (with_reducible refine M.Var.alloc ?_ _) | (with_reducible refine M.Var.drewN ?_ _) | (with_reducible refine M.Var.drew ?_) | (with_reducible refine M.Var.far ?_ _ _ ?hFar; case hFar => (first | omega | ((try simp [go_sem]) <;> omega))) | fail))), (by (repeat (first | (with_reducible assumption) | (with_reducible apply M.var_set45) | (with_reducible apply M.var_setBd) | (with_reducible apply M.var_setV) | (with_reducible refine M.var_alloc' _ _ _ ?_; first | rfl | (focus (simp [go_sem]; done))) | (with_reducible refine M.Var.alloc ?_ _) | (with_reducible refine M.Var.drewN ?_ _) | (with_reducible refine M.Var.drew ?_) | (with_reducible refine M.Var.far ?_ _ _ ?hFar; case hFar => (first | omega | ((try simp [go_sem]) <;> omega))) | fail))), trivial⟩) ?_
      clear hK K hTb hTS; intro hTb hTS
      try simp only [Act.put, List.setIfInBounds_toArray, List.set_cons_zero, List.set_cons_succ]
      refine wpTill_one (i := 7) (by kernel_rfl) rfl hTb (fun K hK => ?_)
      go_simp
      (with_reducible refine (CE.out e15 _ _ igx igy _ (by (repeat (first | (with_reducible assumption) | (with_reducible refine M.pcell_alloc ?_ _) | (with_reducible refine M.pcell_drewN ?_ _) | (with_reducible refine M.pcell_drew ?_) | (with_reducible refine M.pcell_far ?_ _ _ ?hFar; case hFar => (first | omega | ((try simp [go_sem]) <;> omega))) | fail)))).mono ?_); rintro en w16 ⟨u1, u2, e16, rfl, iu1, iu2, hr, hb⟩
      have G16 : M.RW pb e16 w w16 := M.rw_step (by have G := HG15.out; (repeat (with_reducible refine M.Below.drewN ?_ _)); go_grown) hb hpb
      have S16 : w.heap.size ≤ w16.heap.size := by have := G16.size; rwa [M.setCell_size] at this
      have PC16 : M.PCell w16 pb e16 := M.pcell_behind hb (e := e15) (by (repeat (first | (with_reducible assumption) | (with_reducible refine M.pcell_alloc ?_ _) | (with_reducible refine M.pcell_drewN ?_ _) | (with_reducible refine M.pcell_drew ?_) | (with_reducible refine M.pcell_far ?_ _ _ ?hFar; case hFar => (first | omega | ((try simp [go_sem]) <;> omega))) | fail)))
      have V16_a : M.Var w16 (w.heap.size) #[.int .i64 a.shape, .int .i64 a.sx, .int .i64 a.sy, .int .i64 a.mass, .int .i64 a.px, .int .i64 a.py, .int .i64 a.mx, .int .i64 a.my] := M.var_rw (by (repeat (first | (with_reducible assumption) | (with_reducible apply M.var_set45) | (with_reducible apply M.var_setBd) | (with_reducible apply M.var_setV) | (with_reducible refine M.var_alloc' _ _ _ ?_; first | rfl | (focus (simp [go_sem]; done))) | (with_reducible refine M.Var.alloc ?_ _) | (with_reducible refine M.Var.drewN ?_ _) | (with_reducible refine M.Var.drew ?_) | (with_reducible refine M.Var.far ?_ _ _ ?hFar; case hFar => (first | omega | ((try simp [go_sem]) <;> omega))) | fail))) (by omega) hb
      have q16_a_0 : w16.cell? ⟨w.heap.size, 0, none⟩ = some (.int .i64 a.shape) := V16_a.c 0 _ rfl
      have q16_a_1 : w16.cell? ⟨w.heap.size, 1, none⟩ = some (.int .i64 a.sx) := V16_a.c 1 _ rfl
      have q16_a_2 : w16.cell? ⟨w.heap.size, 2, none⟩ = some (.int .i64 a.sy) := V16_a.c 2 _ rfl
      have q16_a_3 : w16.cell? ⟨w.heap.size, 3, none⟩ = some (.int .i64 a.mass) := V16_a.c 3 _ rfl
      have q16_a_4 : w16.cell? ⟨w.heap.size, 4, none⟩ = some (.int .i64 a.px) := V16_a.c 4 _ rfl
      have q16_a_5 : w16.cell? ⟨w.heap.size, 5, none⟩ = some (.int .i64 a.py) := V16_a.c 5 _ rfl
      have q16_a_6 : w16.cell? ⟨w.heap.size, 6, none⟩ = some (.int .i64 a.mx) := V16_a.c 6 _ rfl
      have q16_a_7 : w16.cell? ⟨w.heap.size, 7, none⟩ = some (.int .i64 a.my) := V16_a.c 7 _ rfl
      have f16_a := V16_a.2.2
      have L16_a := V16_a.lt
      have N16_a := Nat.ne_of_gt L16_a
      have M16_a := Nat.ne_of_lt L16_a
      have V16_b : M.Var w16 (w.heap.size + 1) #[.int .i64 b.shape, .int .i64 b.sx, .int .i64 b.sy, .int .i64 b.mass, .int .i64 b.px, .int .i64 b.py, .int .i64 b.mx, .int .i64 b.my] := M.var_rw (by (repeat (first | (with_reducible assumption) | (with_reducible apply M.var_set45) | (with_reducible apply M.var_setBd) | (with_reducible apply M.var_setV) | (with_reducible refine M.var_alloc' _ _ _ ?_; first | rfl | (focus (simp [go_sem]; done))) | (with_reducible refine M.Var.alloc ?_ _) | (with_reducible refine M.Var.drewN ?_ _) | (with_reducible refine M.Var.drew ?_) | (with_reducible refine M.Var.far ?_ _ _ ?hFar; case hFar => (first | omega | ((try simp [go_sem]) <;> omega))) | fail))) (by omega) hb
      have q16_b_0 : w16.cell? ⟨w.heap.size + 1, 0, none⟩ = some (.int .i64 b.shape) := V16_b.c 0 _ rfl
      have q16_b_1 : w16.cell? ⟨w.heap.size + 1, 1, none⟩ = some (.int .i64 b.sx) := V16_b.c 1 _ rfl
      have q16_b_2 : w16.cell? ⟨w.heap.size + 1, 2, none⟩ = some (.int .i64 b.sy) := V16_b.c 2 _ rfl
      have q16_b_3 : w16.cell? ⟨w.heap.size + 1, 3, none⟩ = some (.int .i64 b.mass) := V16_b.c 3 _ rfl
      have q16_b_4 : w16.cell? ⟨w.heap.size + 1, 4, none⟩ = some (.int .i64 b.px) := V16_b.c 4 _ rfl
      have q16_b_5 : w16.cell? ⟨w.heap.size + 1, 5, none⟩ = some (.int .i64 b.py) := V16_b.c 5 _ rfl
      have q16_b_6 : w16.cell? ⟨w.heap.size + 1, 6, none⟩ = some (.int .i64 b.mx) := V16_b.c 6 _ rfl
      have q16_b_7 : w16.cell? ⟨w.heap.size + 1, 7, none⟩ = some (.int .i64 b.my) := V16_b.c 7 _ rfl
      have f16_b := V16_b.2.2
      have L16_b := V16_b.lt
      have N16_b := Nat.ne_of_gt L16_b
      have M16_b := Nat.ne_of_lt L16_b
      have V16_r : M.Var w16 (w.heap.size + 1 + 1) #[.int .i64 0, .int .i64 0, .int .i64 0, .int .i64 0, .int .i64 0, .int .i64 0, .int .i64 0, .int .i64 0] := M.var_rw (by (repeat (first | (with_reducible assumption) | (with_reducible apply M.var_set45) | (with_reducible apply M.var_setBd) | (with_reducible apply M.var_setV) | (with_reducible refine M.var_alloc' _ _ _ ?_; first | rfl | (focus (simp [go_sem]; done))) | (with_reducible refine M.Var.alloc ?_ _) | (with_reducible refine M.Var.drewN ?_ _) | (with_reducible refine M.Var.drew ?_) | (with_reducible refine M.Var.far ?_ _ _ ?hFar; case hFar => (first | omega | ((try simp [go_sem]) <;> omega))) | fail))) (by omega) hb
      have q16_r_0 : w16.cell? ⟨w.heap.size + 1 + 1, 0, none⟩ = some (.int .i64 0) := V16_r.c 0 _ rfl
      have q16_r_1 : w16.cell? ⟨w.heap.size + 1 + 1, 1, none⟩ = some (.int .i64 0) := V16_r.c 1 _ rfl
      have q16_r_2 : w16.cell? ⟨w.heap.size + 1 + 1, 2, none⟩ = some (.int .i64 0) := V16_r.c 2 _ rfl
      have q16_r_3 : w16.cell? ⟨w.heap.size + 1 + 1, 3, none⟩ = some (.int .i64 0) := V16_r.c 3 _ rfl
      have q16_r_4 : w16.cell? ⟨w.heap.size + 1 + 1, 4, none⟩ = some (.int .i64 0) := V16_r.c 4 _ rfl
      have q16_r_5 : w16.cell? ⟨w.heap.size + 1 + 1, 5, none⟩ = some (.int .i64 0) := V16_r.c 5 _ rfl
      have q16_r_6 : w16.cell? ⟨w.heap.size + 1 + 1, 6, none⟩ = some (.int .i64 0) := V16_r.c 6 _ rfl
      have q16_r_7 : w16.cell? ⟨w.heap.size + 1 + 1, 7, none⟩ = some (.int .i64 0) := V16_r.c 7 _ rfl
      have f16_r := V16_r.2.2
      have L16_r := V16_r.lt
      have N16_r := Nat.ne_of_gt L16_r
      have M16_r := Nat.ne_of_lt L16_r
      have V16_s : M.Var w16 (w.heap.size + 1 + 1 + 1) #[.int .i64 0, .int .i64 0, .int .i64 0, .int .i64 0, .int .i64 0, .int .i64 0, .int .i64 0, .int .i64 0] := M.var_rw (by (repeat (first | (with_reducible assumption) | (with_reducible apply M.var_set45) | (with_reducible apply M.var_setBd) | (with_reducible apply M.var_setV) | (with_reducible refine M.var_alloc' _ _ _ ?_; first | rfl | (focus (simp [go_sem]; done))) | (with_reducible refine M.Var.alloc ?_ _) | (with_reducible refine M.Var.drewN ?_ _) | (with_reducible refine M.Var.drew ?_) | (with_reducible refine M.Var.far ?_ _ _ ?hFar; case hFar => (first | omega | ((try simp [go_sem]) <;> omega))) | fail))) (by omega) hb
      have q16_s_0 : w16.cell? ⟨w.heap.size + 1 + 1 + 1, 0, none⟩ = some (.int .i64 0) := V16_s.c 0 _ rfl
      have q16_s_1 : w16.cell? ⟨w.heap.size + 1 + 1 + 1, 1, none⟩ = some (.int .i64 0) := V16_s.c 1 _ rfl
      have q16_s_2 : w16.cell? ⟨w.heap.size + 1 + 1 + 1, 2, none⟩ = some (.int .i64 0) := V16_s.c 2 _ rfl
      have q16_s_3 : w16.cell? ⟨w.heap.size + 1 + 1 + 1, 3, none⟩ = some (.int .i64 0) := V16_s.c 3 _ rfl
      have q16_s_4 : w16.cell? ⟨w.heap.size + 1 + 1 + 1, 4, none⟩ = some (.int .i64 0) := V16_s.c 4 _ rfl
      have q16_s_5 : w16.cell? ⟨w.heap.size + 1 + 1 + 1, 5, none⟩ = some (.int .i64 0) := V16_s.c 5 _ rfl
      have q16_s_6 : w16.cell? ⟨w.heap.size + 1 + 1 + 1, 6, none⟩ = some (.int .i64 0) := V16_s.c 6 _ rfl
      have q16_s_7 : w16.cell? ⟨w.heap.size + 1 + 1 + 1, 7, none⟩ = some (.int .i64 0) := V16_s.c 7 _ rfl
      have f16_s := V16_s.2.2
      have L16_s := V16_s.lt
      have N16_s := Nat.ne_of_gt L16_s
      have M16_s := Nat.ne_of_lt L16_s
      have V16_n : M.Var w16 (w2.heap.size) #[.int .i64 nx, .int .i64 ny] := M.var_rw (by (repeat (first | (with_reducible assumption) | (with_reducible apply M.var_set45) | (with_reducible apply M.var_setBd) | (with_reducible apply M.var_setV) | (with_reducible refine M.var_alloc' _ _ _ ?_; first | rfl | (focus (simp [go_sem]; done))) | (with_reducible refine M.Var.alloc ?_ _) | (with_reducible refine M.Var.drewN ?_ _) | (with_reducible refine M.Var.drew ?_) | (with_reducible refine M.Var.far ?_ _ _ ?hFar; case hFar => (first | omega | ((try simp [go_sem]) <;> omega))) | fail))) (by omega) hb
      have q16_n_0 : w16.cell? ⟨w2.heap.size, 0, none⟩ = some (.int .i64 nx) := V16_n.c 0 _ rfl
      have q16_n_1 : w16.cell? ⟨w2.heap.size, 1, none⟩ = some (.int .i64 ny) := V16_n.c 1 _ rfl
      have f16_n := V16_n.2.2
      have L16_n := V16_n.lt
      have N16_n := Nat.ne_of_gt L16_n
      have M16_n := Nat.ne_of_lt L16_n
      have V16_sb : M.Var w16 (w6.heap.size) #[.int .i64 vx, .int .i64 vy] := M.var_rw (by (repeat (first | (with_reducible assumption) | (with_reducible apply M.var_set45) | (with_reducible apply M.var_setBd) | (with_reducible apply M.var_setV) | (with_reducible refine M.var_alloc' _ _ _ ?_; first | rfl | (focus (simp [go_sem]; done))) | (with_reducible refine M.Var.alloc ?_ _) | (with_reducible refine M.Var.drewN ?_ _) | (with_reducible refine M.Var.drew ?_) | (with_reducible refine M.Var.far ?_ _ _ ?hFar; case hFar => (first | omega | ((try simp [go_sem]) <;> omega))) | fail))) (by omega) hb
      have q16_sb_0 : w16.cell? ⟨w6.heap.size, 0, none⟩ = some (.int .i64 vx) := V16_sb.c 0 _ rfl
      have q16_sb_1 : w16.cell? ⟨w6.heap.size, 1, none⟩ = some (.int .i64 vy) := V16_sb.c 1 _ rfl
      have f16_sb := V16_sb.2.2
      have L16_sb := V16_sb.lt
      have N16_sb := Nat.ne_of_gt L16_sb
      have M16_sb := Nat.ne_of_lt L16_sb
      have V16_sa : M.Var w16 (w7.heap.size) #[.int .i64 ux, .int .i64 uy] := M.var_rw (by (repeat (first | (with_reducible assumption) | (with_reducible apply M.var_set45) | (with_reducible apply M.var_setBd) | (with_reducible apply M.var_setV) | (with_reducible refine M.var_alloc' _ _ _ ?_; first | rfl | (focus (simp [go_sem]; done))) | (with_reducible refine M.Var.alloc ?_ _) | (with_reducible refine M.Var.drewN ?_ _) | (with_reducible refine M.Var.drew ?_) | (with_reducible refine M.Var.far ?_ _ _ ?hFar; case hFar => (first | omega | ((try simp [go_sem]) <;> omega))) | fail))) (by omega) hb
      have q16_sa_0 : w16.cell? ⟨w7.heap.size, 0, none⟩ = some (.int .i64 ux) := V16_sa.c 0 _ rfl
      have q16_sa_1 : w16.cell? ⟨w7.heap.size, 1, none⟩ = some (.int .i64 uy) := V16_sa.c 1 _ rfl
      have f16_sa := V16_sa.2.2
      have L16_sa := V16_sa.lt
      have N16_sa := Nat.ne_of_gt L16_sa
      have M16_sa := Nat.ne_of_lt L16_sa
      clear V15_a f15_a L15_a N15_a M15_a q15_a_0 q15_a_1 q15_a_2 q15_a_3 q15_a_4 q15_a_5 q15_a_6 q15_a_7 V15_b f15_b L15_b N15_b M15_b q15_b_0 q15_b_1 q15_b_2 q15_b_3 q15_b_4 q15_b_5 q15_b_6 q15_b_7 V15_r f15_r L15_r N15_r M15_r q15_r_0 q15_r_1 q15_r_2 q15_r_3 q15_r_4 q15_r_5 q15_r_6 q15_r_7 V15_s f15_s L15_s N15_s M15_s q15_s_0 q15_s_1 q15_s_2 q15_s_3 q15_s_4 q15_s_5 q15_s_6 q15_s_7 V15_n f15_n L15_n N15_n M15_n q15_n_0 q15_n_1 V15_sb f15_sb L15_sb N15_sb M15_sb q15_sb_0 q15_sb_1 V15_sa f15_sa L15_sa N15_sa M15_sa q15_sa_0 q15_sa_1 PC15 c15_pb f15_pb L15_pb N15_pb M15_pb
      have HR16 := Lib.hid hr; clear hr
      have c16_pb := PC16.2.1; have f16_pb := PC16.2.2; have L16_pb := PC16.1; have N16_pb := Nat.ne_of_gt L16_pb; have M16_pb := Nat.ne_of_lt L16_pb
      have HG16 := Lib.hid G16; clear G16 hb
      (try go_simp)
      refine hK.out _ _ (Lib.hid ⟨(by (repeat (first | (with_reducible assumption) | (with_reducible apply M.var_set45) | (with_reducible apply M.var_setBd) | (with_reducible apply M.var_setV) | (with_reducible refine M.var_alloc' _ _ _ ?_; first | rfl | (focus (simp [go_sem]; done))) | (with_reducible refine M.Var.alloc ?_ _) | (with_reducible refine M.Var.drewN ?_ _) | (with_reducible refine M.Var.drew ?_) | (with_reducible refine M.Var.far ?_ _ _ ?hFar; case hFar => (first | omega | ((try simp [go_sem]) <;> omega))) | fail))), (by (repeat (first | (with_reducible assumption) | (with_reducible apply M.var_set45) | (with_reducible apply M.var_setBd) | (with_reducible apply M.var_setV) | (with_reducible refine M.var_alloc' _ _ _ ?_; first | rfl | (focus (simp [go_sem]; done))) | (with_reducible refine M.Var.alloc ?_ _) | (with_reducible refine M.Var.drewN ?_ _) | (with_reducible refine M.Var.drew ?_) | (with_reducible refine M.Var.far ?_ _ _ ?hFar; case hFar => (first | omega | ((try simp [go_sem]) <;> omega))) | fail))), (by (repeat (first | (with_reducible assumption) | (with_reducible apply M.var_set45) | (with_reducible apply M.var_setBd) | (with_reducible apply M.var_setV) | (with_reducible refine M.var_alloc' _ _ _ ?_; first | rfl | (focus (simp [go_sem]; done))) | (with_reducible refine M.Var.alloc ?_ _) | (with_reducible refine M.Var.drewN ?_ _) | (with_reducible refine M.Var.drew ?_) | (with_reducible refine M.Var.far ?_ _ _ ?hFar; case hFar => (first | omega | ((try simp [go_sem]) <;> omega))) | fail))), trivial⟩) ?_
      clear hK K hTb hTS; intro hTb hTS
      try simp only [Act.put, List.setIfInBounds_toArray, List.set_cons_zero, List.set_cons_succ]
      refine wpTill_take (i := 8) (v := ?_) rfl (by kernel_rfl) (by kernel_rfl) (by kernel_rfl) hTb (fun _ _ _ h => h) (fun _ _ => Iff.rfl) (Or.inl ⟨by rfl, ?_⟩) hTS ?_
      rotate_left
      · intro wT hT; clear hT
        go_simp
        all_goals with_reducible rfl
      clear hTb hTS; intro hTb hTS
      try simp only [Act.put, List.setIfInBounds_toArray, List.set_cons_zero, List.set_cons_succ]
      refine wpTill_take (i := 9) (v := ?_) rfl (by kernel_rfl) (by kernel_rfl) (by kernel_rfl) hTb (fun _ _ _ h => h) (fun _ _ => Iff.rfl) (Or.inl ⟨by rfl, ?_⟩) hTS ?_
      rotate_left
      · intro wT hT; clear hT
        go_simp
        all_goals with_reducible rfl
      clear hTb hTS; intro hTb hTS
      try simp only [Act.put, List.setIfInBounds_toArray, List.set_cons_zero, List.set_cons_succ]
      refine wpTill_one (i := 10) (by kernel_rfl) rfl hTb (fun K hK => ?_)
      go_simp
      (try go_simp)
      refine hK.out _ _ (Lib.hid ⟨(by (repeat (first | (with_reducible assumption) | (with_reducible apply M.var_set45) | (with_reducible apply M.var_setBd) | (with_reducible apply M.var_setV) | (with_reducible refine M.var_alloc' _ _ _ ?_; first | rfl | (focus (simp [go_sem]; done))) | (with_reducible refine M.Var.alloc ?_ _) | (with_reducible refine M.Var.drewN ?_ _) | (with_reducible refine M.Var.drew ?_) | (with_reducible refine M.Var.far ?_ _ _ ?hFar; case hFar => (first | omega | ((try simp [go_sem]) <;> omega))) | fail))), (by (repeat (first | (with_reducible assumption) | (with_reducible apply M.var_set45) | (with_reducible apply M.var_setBd) | (with_reducible apply M.var_setV) | (with_reducible refine M.var_alloc' _ _ _ ?_; first | rfl | (focus (simp [go_sem]; done))) | (with_reducible refine M.Var.alloc ?_ _) | (with_reducible refine M.Var.drewN ?_ _) | (with_reducible refine M.Var.drew ?_) | (with_reducible refine M.Var.far ?_ _ _ ?hFar; case hFar => (first | omega | ((try simp [go_sem]) <;> omega))) | fail))), (by (repeat (first | (with_reducible assumption) | (with_reducible apply M.var_set45) | (with_reducible apply M.var_setBd) | (with_reducible apply M.var_setV) | (with_reducible refine M.var_alloc' _ _ _ ?_; first | rfl | (focus (simp [go_sem]; done))) | (with_reducible refine M.Var.alloc ?_ _) | (with_reducible refine M.Var.drewN ?_ _) | (with_reducible refine M.Var.drew ?_) | (with_reducible refine M.Var.far ?_ _ _ ?hFar; case hFar => (first | omega | ((try simp [go_sem]) <;> omega))) | fail))), trivial⟩) ?_
      clear hK K hTb hTS; intro hTb hTS
      try simp only [Act.put, List.setIfInBounds_toArray, List.set_cons_zero, List.set_cons_succ]
      refine wpTill_one (i := 11) (by kernel_rfl) rfl hTb (fun K hK => ?_)
      go_simp
      (try go_simp)
      refine hK.out _ _ (Lib.hid ⟨(by (repeat (first | (with_reducible assumption) | (with_reducible apply M.var_set45) | (with_reducible apply M.var_setBd) | (with_reducible apply M.var_setV) | (with_reducible refine M.var_alloc' _ _ _ ?_; first | rfl | (focus (simp [go_sem]; done))) | (with_reducible refine M.Var.alloc ?_ _) | (with_reducible refine M.Var.drewN ?_ _) | (with_reducible refine M.Var.drew ?_) | (with_reducible refine M.Var.far ?_ _ _ ?hFar; case hFar => (first | omega | ((try simp [go_sem]) <;> omega))) | fail))), (by (repeat (first | (with_reducible assumption) | (with_reducible apply M.var_set45) | (with_reducible apply M.var_setBd) | (with_reducible apply M.var_setV) | (with_reducible refine M.var_alloc' _ _ _ ?_; first | rfl | (focus (simp [go_sem]; done))) | (with_reducible refine M.Var.alloc ?_ _) | (with_reducible refine M.Var.drewN ?_ _) | (with_reducible refine M.Var.drew ?_) | (with_reducible refine M.Var.far ?_ _ _ ?hFar; case hFar => (first | omega | ((try simp [go_sem]) <;> omega))) | fail))), (by (repeat (first | (with_reducible assumption) | (with_reducible apply M.var_set45) | (with_reducible apply M.var_setBd) | (with_reducible apply M.var_setV) | (with_reducible refine M.var_alloc' _ _ _ ?_; first | rfl | (focus (simp [go_sem]; done))) | (with_reducible refine M.Var.alloc ?_ _) | (with_reducible refine M.Var.drewN ?_ _) | (with_reducible refine M.Var.drew ?_) | (with_reducible refine M.Var.far ?_ _ _ ?hFar; case hFar => (first | omega | ((try simp [go_sem]) <;> omega))) | fail))), trivial⟩) ?_
      clear hK K hTb hTS; intro hTb hTS
      try simp only [Act.put, List.setIfInBounds_toArray, List.set_cons_zero, List.set_cons_succ]
      refine wpTill_done (by kernel_rfl) ?_ _; clear hTb hTS
      go_wp2_with (with_reducible refine M.stopPost ?_)
      (try refine M.Stop.mk ?_)
      refine bodyPost_ret (v := .tuple #[.agg #[.int .i64 u1.shape, .int .i64 u1.sx, .int .i64 u1.sy, .int .i64 u1.mass, .int .i64 u1.px, .int .i64 u1.py, .int .i64 u1.mx, .int .i64 u1.my], .agg #[.int .i64 u2.shape, .int .i64 u2.sx, .int .i64 u2.sy, .int .i64 u2.mass, .int .i64 u2.px, .int .i64 u2.py, .int .i64 u2.mx, .int .i64 u2.my]]) (by first | (simp [results, Try.results35, go_sem, q16_r_0, q16_r_1, q16_r_2, q16_r_3, q16_r_4, q16_r_5, q16_r_6, q16_r_7, f16_r, L16_r, N16_r, M16_r, q16_s_0, q16_s_1, q16_s_2, q16_s_3, q16_s_4, q16_s_5, q16_s_6, q16_s_7, f16_s, L16_s, N16_s, M16_s]; done) | (simp [results, Try.results35, go_sem, *]; done)) rfl ?_
      (try unfold M.RelHb); (try unfold M.RelBB); (try unfold M.RelI); (try unfold M.RelV); exact ⟨u1, u2, e16, rfl, iu1, iu2, (rel_bind HR1.out (rel_bind HR2.out (by (try dsimp only); rw [if_neg h0]; exact rel_bind HK.out (by rw [if_neg h3]; exact rel_bind HV.out (rel_bind HR10.out (rel_bind HR11.out (rel_bind HR12.out (rel_bind HR13.out (rel_bind HR14.out (rel_bind HR15.out HR16.out)))))))))), by have G := HG16.out; (repeat (with_reducible refine M.Below.drewN ?_ _)); go_grown⟩
end Go.Proofs.Ytcaibieaobhheaa
