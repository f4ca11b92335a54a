/- What push.Joint computes. -/
import Derived.Test.YtcaibieaobhheaaPush1
namespace Go.Proofs.Ytcaibieaobhheaa
open Go.RowKit M
set_option maxRecDepth 100000
set_option maxHeartbeats 4000000
set_option linter.unusedVariables false
set_option linter.unusedSimpArgs false
attribute [local go_sem ↓] Go.wp_at_zero Go.wp_at_succ
theorem joint_x (a b : Bd) (len : Int) (ha : a.ok) (hb : b.ok) (hl : I64 len) (w : World) :
    Calls Try.prog 32 #[.agg #[.int .i64 a.shape, .int .i64 a.sx, .int .i64 a.sy, .int .i64 a.mass, .int .i64 a.px, .int .i64 a.py, .int .i64 a.mx, .int .i64 a.my], .agg #[.int .i64 b.shape, .int .i64 b.sx, .int .i64 b.sy, .int .i64 b.mass, .int .i64 b.px, .int .i64 b.py, .int .i64 b.mx, .int .i64 b.my], .int .i64 len] w fun en w' => OutBB (jointX a b len) en ∧ Bw w w' := by
  have C1 := Lib.hid (vecSub_x b.px b.py a.px a.py hb.px hb.py ha.px ha.py)
  have C2 := Lib.hid vecUnit_x
  have C3 := Lib.hid (bothK_x a b ha hb)
  have C4 := Lib.hid (fun nx ny h1 h2 => speedK_x a b nx ny ha hb h1 h2)
  have C5 := Lib.hid calcSub_x
  have C6 := Lib.hid calcMul_x
  have C7 := Lib.hid calcAdd_x
  have C8 := Lib.hid calcDiv_x
  have C9 := Lib.hid vecScale_x
  have CA := Lib.hid (fun gx gy h1 h2 => apply_x a b gx gy ha hb h1 h2)
  have z : I64 0 := by unfold I64; omega
  have z8 : I64 34359738368 := by unfold I64; omega
  have HA := Lib.hid ha; have HB := Lib.hid hb
  go_enter Try.func32, Try.ntmps32
  go_wp2_with (with_reducible refine M.stopPost ?_)
  (with_reducible refine (C1.out _).mono ?_); rintro en w1 ⟨ho, hb⟩
  have G1 : Below w.heap.size w w1 := Below.trans (by (repeat (with_reducible refine M.Below.drewN ?_ _)); go_grown) (hb.mono (by go_size))
  have V1_a : M.Var w1 (w.heap.size) #[.int .i64 a.shape, .int .i64 a.sx, .int .i64 a.sy, .int .i64 a.mass, .int .i64 a.px, .int .i64 a.py, .int .i64 a.mx, .int .i64 a.my] := M.Var.mono (b := w.heap.size) (cs := #[.int .i64 a.shape, .int .i64 a.sx, .int .i64 a.sy, .int .i64 a.mass, .int .i64 a.px, .int .i64 a.py, .int .i64 a.mx, .int .i64 a.my]) (by (repeat (first | (with_reducible assumption) | (with_reducible apply M.var_setV) | (with_reducible apply M.var_setI) | (with_reducible apply M.var_setB) | (with_reducible apply M.var_setHt) | (with_reducible apply M.var_setBd) | (with_reducible apply M.var_set2) | (with_reducible apply M.var_set3) | (with_reducible apply M.var_set4) | (with_reducible apply M.var_set45) | (with_reducible apply M.var_set67) | (with_reducible apply M.var_setF) | (with_reducible refine M.var_alloc' _ _ _ ?_; first | rfl | (focus (simp [go_sem]; done))) | (with_reducible refine M.Var.alloc ?_ _) | (with_reducible refine M.Var.drewN ?_ _) | (with_reducible refine M.Var.drew ?_) | (with_reducible refine M.Var.far ?_ _ _ ?hFar; case hFar => (first | omega | ((try simp [go_sem]) <;> omega))) | fail))) hb
  have q1_a_0 : w1.cell? ⟨w.heap.size, 0, none⟩ = some (.int .i64 a.shape) := V1_a.c 0 _ rfl
  have q1_a_1 : w1.cell? ⟨w.heap.size, 1, none⟩ = some (.int .i64 a.sx) := V1_a.c 1 _ rfl
  have q1_a_2 : w1.cell? ⟨w.heap.size, 2, none⟩ = some (.int .i64 a.sy) := V1_a.c 2 _ rfl
  have q1_a_3 : w1.cell? ⟨w.heap.size, 3, none⟩ = some (.int .i64 a.mass) := V1_a.c 3 _ rfl
  have q1_a_4 : w1.cell? ⟨w.heap.size, 4, none⟩ = some (.int .i64 a.px) := V1_a.c 4 _ rfl
  have q1_a_5 : w1.cell? ⟨w.heap.size, 5, none⟩ = some (.int .i64 a.py) := V1_a.c 5 _ rfl
  have q1_a_6 : w1.cell? ⟨w.heap.size, 6, none⟩ = some (.int .i64 a.mx) := V1_a.c 6 _ rfl
  have q1_a_7 : w1.cell? ⟨w.heap.size, 7, none⟩ = some (.int .i64 a.my) := V1_a.c 7 _ rfl
  have f1_a := V1_a.2.2
  have L1_a := V1_a.lt
  have N1_a := Nat.ne_of_gt L1_a
  have M1_a := Nat.ne_of_lt L1_a
  have V1_b : M.Var w1 (w.heap.size + 1) #[.int .i64 b.shape, .int .i64 b.sx, .int .i64 b.sy, .int .i64 b.mass, .int .i64 b.px, .int .i64 b.py, .int .i64 b.mx, .int .i64 b.my] := M.Var.mono (b := w.heap.size + 1) (cs := #[.int .i64 b.shape, .int .i64 b.sx, .int .i64 b.sy, .int .i64 b.mass, .int .i64 b.px, .int .i64 b.py, .int .i64 b.mx, .int .i64 b.my]) (by (repeat (first | (with_reducible assumption) | (with_reducible apply M.var_setV) | (with_reducible apply M.var_setI) | (with_reducible apply M.var_setB) | (with_reducible apply M.var_setHt) | (with_reducible apply M.var_setBd) | (with_reducible apply M.var_set2) | (with_reducible apply M.var_set3) | (with_reducible apply M.var_set4) | (with_reducible apply M.var_set45) | (with_reducible apply M.var_set67) | (with_reducible apply M.var_setF) | (with_reducible refine M.var_alloc' _ _ _ ?_; first | rfl | (focus (simp [go_sem]; done))) | (with_reducible refine M.Var.alloc ?_ _) | (with_reducible refine M.Var.drewN ?_ _) | (with_reducible refine M.Var.drew ?_) | (with_reducible refine M.Var.far ?_ _ _ ?hFar; case hFar => (first | omega | ((try simp [go_sem]) <;> omega))) | fail))) hb
  have q1_b_0 : w1.cell? ⟨w.heap.size + 1, 0, none⟩ = some (.int .i64 b.shape) := V1_b.c 0 _ rfl
  have q1_b_1 : w1.cell? ⟨w.heap.size + 1, 1, none⟩ = some (.int .i64 b.sx) := V1_b.c 1 _ rfl
  have q1_b_2 : w1.cell? ⟨w.heap.size + 1, 2, none⟩ = some (.int .i64 b.sy) := V1_b.c 2 _ rfl
  have q1_b_3 : w1.cell? ⟨w.heap.size + 1, 3, none⟩ = some (.int .i64 b.mass) := V1_b.c 3 _ rfl
  have q1_b_4 : w1.cell? ⟨w.heap.size + 1, 4, none⟩ = some (.int .i64 b.px) := V1_b.c 4 _ rfl
  have q1_b_5 : w1.cell? ⟨w.heap.size + 1, 5, none⟩ = some (.int .i64 b.py) := V1_b.c 5 _ rfl
  have q1_b_6 : w1.cell? ⟨w.heap.size + 1, 6, none⟩ = some (.int .i64 b.mx) := V1_b.c 6 _ rfl
  have q1_b_7 : w1.cell? ⟨w.heap.size + 1, 7, none⟩ = some (.int .i64 b.my) := V1_b.c 7 _ rfl
  have f1_b := V1_b.2.2
  have L1_b := V1_b.lt
  have N1_b := Nat.ne_of_gt L1_b
  have M1_b := Nat.ne_of_lt L1_b
  have V1_r : M.Var w1 (w.heap.size + 1 + 1) #[.int .i64 0, .int .i64 0, .int .i64 0, .int .i64 0, .int .i64 0, .int .i64 0, .int .i64 0, .int .i64 0] := M.Var.mono (b := w.heap.size + 1 + 1) (cs := #[.int .i64 0, .int .i64 0, .int .i64 0, .int .i64 0, .int .i64 0, .int .i64 0, .int .i64 0, .int .i64 0]) (by (repeat (first | (with_reducible assumption) | (with_reducible apply M.var_setV) | (with_reducible apply M.var_setI) | (with_reducible apply M.var_setB) | (with_reducible apply M.var_setHt) | (with_reducible apply M.var_setBd) | (with_reducible apply M.var_set2) | (with_reducible apply M.var_set3) | (with_reducible apply M.var_set4) | (with_reducible apply M.var_set45) | (with_reducible apply M.var_set67) | (with_reducible apply M.var_setF) | (with_reducible refine M.var_alloc' _ _ _ ?_; first | rfl | (focus (simp [go_sem]; done))) | (with_reducible refine M.Var.alloc ?_ _) | (with_reducible refine M.Var.drewN ?_ _) | (with_reducible refine M.Var.drew ?_) | (with_reducible refine M.Var.far ?_ _ _ ?hFar; case hFar => (first | omega | ((try simp [go_sem]) <;> omega))) | fail))) hb
  have q1_r_0 : w1.cell? ⟨w.heap.size + 1 + 1, 0, none⟩ = some (.int .i64 0) := V1_r.c 0 _ rfl
  have q1_r_1 : w1.cell? ⟨w.heap.size + 1 + 1, 1, none⟩ = some (.int .i64 0) := V1_r.c 1 _ rfl
  have q1_r_2 : w1.cell? ⟨w.heap.size + 1 + 1, 2, none⟩ = some (.int .i64 0) := V1_r.c 2 _ rfl
  have q1_r_3 : w1.cell? ⟨w.heap.size + 1 + 1, 3, none⟩ = some (.int .i64 0) := V1_r.c 3 _ rfl
  have q1_r_4 : w1.cell? ⟨w.heap.size + 1 + 1, 4, none⟩ = some (.int .i64 0) := V1_r.c 4 _ rfl
  have q1_r_5 : w1.cell? ⟨w.heap.size + 1 + 1, 5, none⟩ = some (.int .i64 0) := V1_r.c 5 _ rfl
  have q1_r_6 : w1.cell? ⟨w.heap.size + 1 + 1, 6, none⟩ = some (.int .i64 0) := V1_r.c 6 _ rfl
  have q1_r_7 : w1.cell? ⟨w.heap.size + 1 + 1, 7, none⟩ = some (.int .i64 0) := V1_r.c 7 _ rfl
  have f1_r := V1_r.2.2
  have L1_r := V1_r.lt
  have N1_r := Nat.ne_of_gt L1_r
  have M1_r := Nat.ne_of_lt L1_r
  have V1_s : M.Var w1 (w.heap.size + 1 + 1 + 1) #[.int .i64 0, .int .i64 0, .int .i64 0, .int .i64 0, .int .i64 0, .int .i64 0, .int .i64 0, .int .i64 0] := M.Var.mono (b := w.heap.size + 1 + 1 + 1) (cs := #[.int .i64 0, .int .i64 0, .int .i64 0, .int .i64 0, .int .i64 0, .int .i64 0, .int .i64 0, .int .i64 0]) (by (repeat (first | (with_reducible assumption) | (with_reducible apply M.var_setV) | (with_reducible apply M.var_setI) | (with_reducible apply M.var_setB) | (with_reducible apply M.var_setHt) | (with_reducible apply M.var_setBd) | (with_reducible apply M.var_set2) | (with_reducible apply M.var_set3) | (with_reducible apply M.var_set4) | (with_reducible apply M.var_set45) | (with_reducible apply M.var_set67) | (with_reducible apply M.var_setF) | (with_reducible refine M.var_alloc' _ _ _ ?_; first | rfl | (focus (simp [go_sem]; done))) | (with_reducible refine M.Var.alloc ?_ _) | (with_reducible refine M.Var.drewN ?_ _) | (with_reducible refine M.Var.drew ?_) | (with_reducible refine M.Var.far ?_ _ _ ?hFar; case hFar => (first | omega | ((try simp [go_sem]) <;> omega))) | fail))) hb
  have q1_s_0 : w1.cell? ⟨w.heap.size + 1 + 1 + 1, 0, none⟩ = some (.int .i64 0) := V1_s.c 0 _ rfl
  have q1_s_1 : w1.cell? ⟨w.heap.size + 1 + 1 + 1, 1, none⟩ = some (.int .i64 0) := V1_s.c 1 _ rfl
  have q1_s_2 : w1.cell? ⟨w.heap.size + 1 + 1 + 1, 2, none⟩ = some (.int .i64 0) := V1_s.c 2 _ rfl
  have q1_s_3 : w1.cell? ⟨w.heap.size + 1 + 1 + 1, 3, none⟩ = some (.int .i64 0) := V1_s.c 3 _ rfl
  have q1_s_4 : w1.cell? ⟨w.heap.size + 1 + 1 + 1, 4, none⟩ = some (.int .i64 0) := V1_s.c 4 _ rfl
  have q1_s_5 : w1.cell? ⟨w.heap.size + 1 + 1 + 1, 5, none⟩ = some (.int .i64 0) := V1_s.c 5 _ rfl
  have q1_s_6 : w1.cell? ⟨w.heap.size + 1 + 1 + 1, 6, none⟩ = some (.int .i64 0) := V1_s.c 6 _ rfl
  have q1_s_7 : w1.cell? ⟨w.heap.size + 1 + 1 + 1, 7, none⟩ = some (.int .i64 0) := V1_s.c 7 _ rfl
  have f1_s := V1_s.2.2
  have L1_s := V1_s.lt
  have N1_s := Nat.ne_of_gt L1_s
  have M1_s := Nat.ne_of_lt L1_s
  have S1 := G1.size
  have HG1 := Lib.hid G1; clear G1 hb
  rcases ho with ⟨n1, hn1, hz1, rfl⟩ | ⟨dx, dy, hd, idx, idy, rfl⟩
  · exact ⟨rfl, .inl ⟨n1, by unfold jointX Bd.pos; simp only [hn1, andThen_ok, andThen_err], hz1, rfl⟩, HG1.out⟩
  have Hhd := Lib.hid hd; clear hd
  go_wp2_with (with_reducible refine M.stopPost ?_)
  (with_reducible refine ((C2.out _ _ idx idy) _).mono ?_); rintro en w2 ⟨ho, hb⟩
  have G2 : Below w.heap.size w w2 := Below.trans (by have G := HG1.out; (repeat (with_reducible refine M.Below.drewN ?_ _)); go_grown) (hb.mono (by go_size))
  have V2_a : M.Var w2 (w.heap.size) #[.int .i64 a.shape, .int .i64 a.sx, .int .i64 a.sy, .int .i64 a.mass, .int .i64 a.px, .int .i64 a.py, .int .i64 a.mx, .int .i64 a.my] := M.Var.mono (b := w.heap.size) (cs := #[.int .i64 a.shape, .int .i64 a.sx, .int .i64 a.sy, .int .i64 a.mass, .int .i64 a.px, .int .i64 a.py, .int .i64 a.mx, .int .i64 a.my]) (by (repeat (first | (with_reducible assumption) | (with_reducible apply M.var_setV) | (with_reducible apply M.var_setI) | (with_reducible apply M.var_setB) | (with_reducible apply M.var_setHt) | (with_reducible apply M.var_setBd) | (with_reducible apply M.var_set2) | (with_reducible apply M.var_set3) | (with_reducible apply M.var_set4) | (with_reducible apply M.var_set45) | (with_reducible apply M.var_set67) | (with_reducible apply M.var_setF) | (with_reducible refine M.var_alloc' _ _ _ ?_; first | rfl | (focus (simp [go_sem]; done))) | (with_reducible refine M.Var.alloc ?_ _) | (with_reducible refine M.Var.drewN ?_ _) | (with_reducible refine M.Var.drew ?_) | (with_reducible refine M.Var.far ?_ _ _ ?hFar; case hFar => (first | omega | ((try simp [go_sem]) <;> omega))) | fail))) hb
  have q2_a_0 : w2.cell? ⟨w.heap.size, 0, none⟩ = some (.int .i64 a.shape) := V2_a.c 0 _ rfl
  have q2_a_1 : w2.cell? ⟨w.heap.size, 1, none⟩ = some (.int .i64 a.sx) := V2_a.c 1 _ rfl
  have q2_a_2 : w2.cell? ⟨w.heap.size, 2, none⟩ = some (.int .i64 a.sy) := V2_a.c 2 _ rfl
  have q2_a_3 : w2.cell? ⟨w.heap.size, 3, none⟩ = some (.int .i64 a.mass) := V2_a.c 3 _ rfl
  have q2_a_4 : w2.cell? ⟨w.heap.size, 4, none⟩ = some (.int .i64 a.px) := V2_a.c 4 _ rfl
  have q2_a_5 : w2.cell? ⟨w.heap.size, 5, none⟩ = some (.int .i64 a.py) := V2_a.c 5 _ rfl
  have q2_a_6 : w2.cell? ⟨w.heap.size, 6, none⟩ = some (.int .i64 a.mx) := V2_a.c 6 _ rfl
  have q2_a_7 : w2.cell? ⟨w.heap.size, 7, none⟩ = some (.int .i64 a.my) := V2_a.c 7 _ rfl
  have f2_a := V2_a.2.2
  have L2_a := V2_a.lt
  have N2_a := Nat.ne_of_gt L2_a
  have M2_a := Nat.ne_of_lt L2_a
  have V2_b : M.Var w2 (w.heap.size + 1) #[.int .i64 b.shape, .int .i64 b.sx, .int .i64 b.sy, .int .i64 b.mass, .int .i64 b.px, .int .i64 b.py, .int .i64 b.mx, .int .i64 b.my] := M.Var.mono (b := w.heap.size + 1) (cs := #[.int .i64 b.shape, .int .i64 b.sx, .int .i64 b.sy, .int .i64 b.mass, .int .i64 b.px, .int .i64 b.py, .int .i64 b.mx, .int .i64 b.my]) (by (repeat (first | (with_reducible assumption) | (with_reducible apply M.var_setV) | (with_reducible apply M.var_setI) | (with_reducible apply M.var_setB) | (with_reducible apply M.var_setHt) | (with_reducible apply M.var_setBd) | (with_reducible apply M.var_set2) | (with_reducible apply M.var_set3) | (with_reducible apply M.var_set4) | (with_reducible apply M.var_set45) | (with_reducible apply M.var_set67) | (with_reducible apply M.var_setF) | (with_reducible refine M.var_alloc' _ _ _ ?_; first | rfl | (focus (simp [go_sem]; done))) | (with_reducible refine M.Var.alloc ?_ _) | (with_reducible refine M.Var.drewN ?_ _) | (with_reducible refine M.Var.drew ?_) | (with_reducible refine M.Var.far ?_ _ _ ?hFar; case hFar => (first | omega | ((try simp [go_sem]) <;> omega))) | fail))) hb
  have q2_b_0 : w2.cell? ⟨w.heap.size + 1, 0, none⟩ = some (.int .i64 b.shape) := V2_b.c 0 _ rfl
  have q2_b_1 : w2.cell? ⟨w.heap.size + 1, 1, none⟩ = some (.int .i64 b.sx) := V2_b.c 1 _ rfl
  have q2_b_2 : w2.cell? ⟨w.heap.size + 1, 2, none⟩ = some (.int .i64 b.sy) := V2_b.c 2 _ rfl
  have q2_b_3 : w2.cell? ⟨w.heap.size + 1, 3, none⟩ = some (.int .i64 b.mass) := V2_b.c 3 _ rfl
  have q2_b_4 : w2.cell? ⟨w.heap.size + 1, 4, none⟩ = some (.int .i64 b.px) := V2_b.c 4 _ rfl
  have q2_b_5 : w2.cell? ⟨w.heap.size + 1, 5, none⟩ = some (.int .i64 b.py) := V2_b.c 5 _ rfl
  have q2_b_6 : w2.cell? ⟨w.heap.size + 1, 6, none⟩ = some (.int .i64 b.mx) := V2_b.c 6 _ rfl
  have q2_b_7 : w2.cell? ⟨w.heap.size + 1, 7, none⟩ = some (.int .i64 b.my) := V2_b.c 7 _ rfl
  have f2_b := V2_b.2.2
  have L2_b := V2_b.lt
  have N2_b := Nat.ne_of_gt L2_b
  have M2_b := Nat.ne_of_lt L2_b
  have V2_r : M.Var w2 (w.heap.size + 1 + 1) #[.int .i64 0, .int .i64 0, .int .i64 0, .int .i64 0, .int .i64 0, .int .i64 0, .int .i64 0, .int .i64 0] := M.Var.mono (b := w.heap.size + 1 + 1) (cs := #[.int .i64 0, .int .i64 0, .int .i64 0, .int .i64 0, .int .i64 0, .int .i64 0, .int .i64 0, .int .i64 0]) (by (repeat (first | (with_reducible assumption) | (with_reducible apply M.var_setV) | (with_reducible apply M.var_setI) | (with_reducible apply M.var_setB) | (with_reducible apply M.var_setHt) | (with_reducible apply M.var_setBd) | (with_reducible apply M.var_set2) | (with_reducible apply M.var_set3) | (with_reducible apply M.var_set4) | (with_reducible apply M.var_set45) | (with_reducible apply M.var_set67) | (with_reducible apply M.var_setF) | (with_reducible refine M.var_alloc' _ _ _ ?_; first | rfl | (focus (simp [go_sem]; done))) | (with_reducible refine M.Var.alloc ?_ _) | (with_reducible refine M.Var.drewN ?_ _) | (with_reducible refine M.Var.drew ?_) | (with_reducible refine M.Var.far ?_ _ _ ?hFar; case hFar => (first | omega | ((try simp [go_sem]) <;> omega))) | fail))) hb
  have q2_r_0 : w2.cell? ⟨w.heap.size + 1 + 1, 0, none⟩ = some (.int .i64 0) := V2_r.c 0 _ rfl
  have q2_r_1 : w2.cell? ⟨w.heap.size + 1 + 1, 1, none⟩ = some (.int .i64 0) := V2_r.c 1 _ rfl
  have q2_r_2 : w2.cell? ⟨w.heap.size + 1 + 1, 2, none⟩ = some (.int .i64 0) := V2_r.c 2 _ rfl
  have q2_r_3 : w2.cell? ⟨w.heap.size + 1 + 1, 3, none⟩ = some (.int .i64 0) := V2_r.c 3 _ rfl
  have q2_r_4 : w2.cell? ⟨w.heap.size + 1 + 1, 4, none⟩ = some (.int .i64 0) := V2_r.c 4 _ rfl
  have q2_r_5 : w2.cell? ⟨w.heap.size + 1 + 1, 5, none⟩ = some (.int .i64 0) := V2_r.c 5 _ rfl
  have q2_r_6 : w2.cell? ⟨w.heap.size + 1 + 1, 6, none⟩ = some (.int .i64 0) := V2_r.c 6 _ rfl
  have q2_r_7 : w2.cell? ⟨w.heap.size + 1 + 1, 7, none⟩ = some (.int .i64 0) := V2_r.c 7 _ rfl
  have f2_r := V2_r.2.2
  have L2_r := V2_r.lt
  have N2_r := Nat.ne_of_gt L2_r
  have M2_r := Nat.ne_of_lt L2_r
  have V2_s : M.Var w2 (w.heap.size + 1 + 1 + 1) #[.int .i64 0, .int .i64 0, .int .i64 0, .int .i64 0, .int .i64 0, .int .i64 0, .int .i64 0, .int .i64 0] := M.Var.mono (b := w.heap.size + 1 + 1 + 1) (cs := #[.int .i64 0, .int .i64 0, .int .i64 0, .int .i64 0, .int .i64 0, .int .i64 0, .int .i64 0, .int .i64 0]) (by (repeat (first | (with_reducible assumption) | (with_reducible apply M.var_setV) | (with_reducible apply M.var_setI) | (with_reducible apply M.var_setB) | (with_reducible apply M.var_setHt) | (with_reducible apply M.var_setBd) | (with_reducible apply M.var_set2) | (with_reducible apply M.var_set3) | (with_reducible apply M.var_set4) | (with_reducible apply M.var_set45) | (with_reducible apply M.var_set67) | (with_reducible apply M.var_setF) | (with_reducible refine M.var_alloc' _ _ _ ?_; first | rfl | (focus (simp [go_sem]; done))) | (with_reducible refine M.Var.alloc ?_ _) | (with_reducible refine M.Var.drewN ?_ _) | (with_reducible refine M.Var.drew ?_) | (with_reducible refine M.Var.far ?_ _ _ ?hFar; case hFar => (first | omega | ((try simp [go_sem]) <;> omega))) | fail))) hb
  have q2_s_0 : w2.cell? ⟨w.heap.size + 1 + 1 + 1, 0, none⟩ = some (.int .i64 0) := V2_s.c 0 _ rfl
  have q2_s_1 : w2.cell? ⟨w.heap.size + 1 + 1 + 1, 1, none⟩ = some (.int .i64 0) := V2_s.c 1 _ rfl
  have q2_s_2 : w2.cell? ⟨w.heap.size + 1 + 1 + 1, 2, none⟩ = some (.int .i64 0) := V2_s.c 2 _ rfl
  have q2_s_3 : w2.cell? ⟨w.heap.size + 1 + 1 + 1, 3, none⟩ = some (.int .i64 0) := V2_s.c 3 _ rfl
  have q2_s_4 : w2.cell? ⟨w.heap.size + 1 + 1 + 1, 4, none⟩ = some (.int .i64 0) := V2_s.c 4 _ rfl
  have q2_s_5 : w2.cell? ⟨w.heap.size + 1 + 1 + 1, 5, none⟩ = some (.int .i64 0) := V2_s.c 5 _ rfl
  have q2_s_6 : w2.cell? ⟨w.heap.size + 1 + 1 + 1, 6, none⟩ = some (.int .i64 0) := V2_s.c 6 _ rfl
  have q2_s_7 : w2.cell? ⟨w.heap.size + 1 + 1 + 1, 7, none⟩ = some (.int .i64 0) := V2_s.c 7 _ rfl
  have f2_s := V2_s.2.2
  have L2_s := V2_s.lt
  have N2_s := Nat.ne_of_gt L2_s
  have M2_s := Nat.ne_of_lt L2_s
  clear V1_a f1_a L1_a N1_a M1_a q1_a_0 q1_a_1 q1_a_2 q1_a_3 q1_a_4 q1_a_5 q1_a_6 q1_a_7 V1_b f1_b L1_b N1_b M1_b q1_b_0 q1_b_1 q1_b_2 q1_b_3 q1_b_4 q1_b_5 q1_b_6 q1_b_7 V1_r f1_r L1_r N1_r M1_r q1_r_0 q1_r_1 q1_r_2 q1_r_3 q1_r_4 q1_r_5 q1_r_6 q1_r_7 V1_s f1_s L1_s N1_s M1_s q1_s_0 q1_s_1 q1_s_2 q1_s_3 q1_s_4 q1_s_5 q1_s_6 q1_s_7
  have S2 := G2.size
  have HG2 := Lib.hid G2; clear G2 hb
  rcases ho with ⟨n2, hn2, hz2, rfl⟩ | ⟨nx, ny, l, hu, inx, iny, il, rfl⟩
  · exact ⟨rfl, .inl ⟨n2, by unfold jointX Bd.pos; simp only [Hhd.out, hn2, andThen_ok, andThen_err], hz2, rfl⟩, HG2.out⟩
  have Hhu := Lib.hid hu; clear hu
  go_wp2_with (with_reducible refine M.stopPost ?_)
  · have h0 : l = 0 := beq_iff_eq.1 (by assumption)
    go_region_held2 (fun w' => w'.cell? ⟨w.heap.size, 0, none⟩ = some (.int .i64 a.shape) ∧ w'.cell? ⟨w.heap.size, 1, none⟩ = some (.int .i64 a.sx) ∧ w'.cell? ⟨w.heap.size, 2, none⟩ = some (.int .i64 a.sy) ∧ w'.cell? ⟨w.heap.size, 3, none⟩ = some (.int .i64 a.mass) ∧ w'.cell? ⟨w.heap.size, 4, none⟩ = some (.int .i64 a.px) ∧ w'.cell? ⟨w.heap.size, 5, none⟩ = some (.int .i64 a.py) ∧ w'.cell? ⟨w.heap.size, 6, none⟩ = some (.int .i64 a.mx) ∧ w'.cell? ⟨w.heap.size, 7, none⟩ = some (.int .i64 a.my) ∧ w'.cell? ⟨w.heap.size + 1, 0, none⟩ = some (.int .i64 b.shape) ∧ w'.cell? ⟨w.heap.size + 1, 1, none⟩ = some (.int .i64 b.sx) ∧ w'.cell? ⟨w.heap.size + 1, 2, none⟩ = some (.int .i64 b.sy) ∧ w'.cell? ⟨w.heap.size + 1, 3, none⟩ = some (.int .i64 b.mass) ∧ w'.cell? ⟨w.heap.size + 1, 4, none⟩ = some (.int .i64 b.px) ∧ w'.cell? ⟨w.heap.size + 1, 5, none⟩ = some (.int .i64 b.py) ∧ w'.cell? ⟨w.heap.size + 1, 6, none⟩ = some (.int .i64 b.mx) ∧ w'.cell? ⟨w.heap.size + 1, 7, none⟩ = some (.int .i64 b.my)) (first | (go_keep; done) | (simp [*, go_sem, World.cell?_alloc_some, World.cell?_setCell_far]; done))
      (fail)
    all_goals go_wp2_with (with_reducible refine M.stopPost ?_)
    all_goals (try refine M.Stop.mk ?_)
    all_goals refine bodyPost_ret (v := .tuple #[.agg #[.int .i64 a.shape, .int .i64 a.sx, .int .i64 a.sy, .int .i64 a.mass, .int .i64 a.px, .int .i64 a.py, .int .i64 a.mx, .int .i64 a.my], .agg #[.int .i64 b.shape, .int .i64 b.sx, .int .i64 b.sy, .int .i64 b.mass, .int .i64 b.px, .int .i64 b.py, .int .i64 b.mx, .int .i64 b.my]]) (by first | (simp [results, Try.results32, go_sem, q2_r_0, q2_r_1, q2_r_2, q2_r_3, q2_r_4, q2_r_5, q2_r_6, q2_r_7, f2_r, L2_r, N2_r, M2_r, q2_s_0, q2_s_1, q2_s_2, q2_s_3, q2_s_4, q2_s_5, q2_s_6, q2_s_7, f2_s, L2_s, N2_s, M2_s]; done) | (simp [results, Try.results32, go_sem, *]; done)) rfl ⟨.inr ⟨a, b, by unfold jointX Bd.pos; simp only [Hhd.out, Hhu.out, if_pos h0, andThen_ok, andThen_err], HA.out, HB.out, rfl⟩, by have G := HG2.out; (repeat (with_reducible refine M.Below.drewN ?_ _)); go_grown⟩
  · have h0 : ¬ l = 0 := beq_eq_false_iff_ne.1 (by assumption)
    (with_reducible refine (C3.out _).mono ?_); rintro en w3 ⟨ho, hb⟩
    have G3 : Below w.heap.size w w3 := Below.trans (by have G := HG2.out; (repeat (with_reducible refine M.Below.drewN ?_ _)); go_grown) (hb.mono (by go_size))
    have V3_a : M.Var w3 (w.heap.size) #[.int .i64 a.shape, .int .i64 a.sx, .int .i64 a.sy, .int .i64 a.mass, .int .i64 a.px, .int .i64 a.py, .int .i64 a.mx, .int .i64 a.my] := M.Var.mono (b := w.heap.size) (cs := #[.int .i64 a.shape, .int .i64 a.sx, .int .i64 a.sy, .int .i64 a.mass, .int .i64 a.px, .int .i64 a.py, .int .i64 a.mx, .int .i64 a.my]) (by (repeat (first | (with_reducible assumption) | (with_reducible apply M.var_setV) | (with_reducible apply M.var_setI) | (with_reducible apply M.var_setB) | (with_reducible apply M.var_setHt) | (with_reducible apply M.var_setBd) | (with_reducible apply M.var_set2) | (with_reducible apply M.var_set3) | (with_reducible apply M.var_set4) | (with_reducible apply M.var_set45) | (with_reducible apply M.var_set67) | (with_reducible apply M.var_setF) | (with_reducible refine M.var_alloc' _ _ _ ?_; first | rfl | (focus (simp [go_sem]; done))) | (with_reducible refine M.Var.alloc ?_ _) | (with_reducible refine M.Var.drewN ?_ _) | (with_reducible refine M.Var.drew ?_) | (with_reducible refine M.Var.far ?_ _ _ ?hFar; case hFar => (first | omega | ((try simp [go_sem]) <;> omega))) | fail))) hb
    have q3_a_0 : w3.cell? ⟨w.heap.size, 0, none⟩ = some (.int .i64 a.shape) := V3_a.c 0 _ rfl
    have q3_a_1 : w3.cell? ⟨w.heap.size, 1, none⟩ = some (.int .i64 a.sx) := V3_a.c 1 _ rfl
    have q3_a_2 : w3.cell? ⟨w.heap.size, 2, none⟩ = some (.int .i64 a.sy) := V3_a.c 2 _ rfl
    have q3_a_3 : w3.cell? ⟨w.heap.size, 3, none⟩ = some (.int .i64 a.mass) := V3_a.c 3 _ rfl
    have q3_a_4 : w3.cell? ⟨w.heap.size, 4, none⟩ = some (.int .i64 a.px) := V3_a.c 4 _ rfl
    have q3_a_5 : w3.cell? ⟨w.heap.size, 5, none⟩ = some (.int .i64 a.py) := V3_a.c 5 _ rfl
    have q3_a_6 : w3.cell? ⟨w.heap.size, 6, none⟩ = some (.int .i64 a.mx) := V3_a.c 6 _ rfl
    have q3_a_7 : w3.cell? ⟨w.heap.size, 7, none⟩ = some (.int .i64 a.my) := V3_a.c 7 _ rfl
    have f3_a := V3_a.2.2
    have L3_a := V3_a.lt
    have N3_a := Nat.ne_of_gt L3_a
    have M3_a := Nat.ne_of_lt L3_a
    have V3_b : M.Var w3 (w.heap.size + 1) #[.int .i64 b.shape, .int .i64 b.sx, .int .i64 b.sy, .int .i64 b.mass, .int .i64 b.px, .int .i64 b.py, .int .i64 b.mx, .int .i64 b.my] := M.Var.mono (b := w.heap.size + 1) (cs := #[.int .i64 b.shape, .int .i64 b.sx, .int .i64 b.sy, .int .i64 b.mass, .int .i64 b.px, .int .i64 b.py, .int .i64 b.mx, .int .i64 b.my]) (by (repeat (first | (with_reducible assumption) | (with_reducible apply M.var_setV) | (with_reducible apply M.var_setI) | (with_reducible apply M.var_setB) | (with_reducible apply M.var_setHt) | (with_reducible apply M.var_setBd) | (with_reducible apply M.var_set2) | (with_reducible apply M.var_set3) | (with_reducible apply M.var_set4) | (with_reducible apply M.var_set45) | (with_reducible apply M.var_set67) | (with_reducible apply M.var_setF) | (with_reducible refine M.var_alloc' _ _ _ ?_; first | rfl | (focus (simp [go_sem]; done))) | (with_reducible refine M.Var.alloc ?_ _) | (with_reducible refine M.Var.drewN ?_ _) | (with_reducible refine M.Var.drew ?_) | (with_reducible refine M.Var.far ?_ _ _ ?hFar; case hFar => (first | omega | ((try simp [go_sem]) <;> omega))) | fail))) hb
    have q3_b_0 : w3.cell? ⟨w.heap.size + 1, 0, none⟩ = some (.int .i64 b.shape) := V3_b.c 0 _ rfl
    have q3_b_1 : w3.cell? ⟨w.heap.size + 1, 1, none⟩ = some (.int .i64 b.sx) := V3_b.c 1 _ rfl
    have q3_b_2 : w3.cell? ⟨w.heap.size + 1, 2, none⟩ = some (.int .i64 b.sy) := V3_b.c 2 _ rfl
    have q3_b_3 : w3.cell? ⟨w.heap.size + 1, 3, none⟩ = some (.int .i64 b.mass) := V3_b.c 3 _ rfl
    have q3_b_4 : w3.cell? ⟨w.heap.size + 1, 4, none⟩ = some (.int .i64 b.px) := V3_b.c 4 _ rfl
    have q3_b_5 : w3.cell? ⟨w.heap.size + 1, 5, none⟩ = some (.int .i64 b.py) := V3_b.c 5 _ rfl
    have q3_b_6 : w3.cell? ⟨w.heap.size + 1, 6, none⟩ = some (.int .i64 b.mx) := V3_b.c 6 _ rfl
    have q3_b_7 : w3.cell? ⟨w.heap.size + 1, 7, none⟩ = some (.int .i64 b.my) := V3_b.c 7 _ rfl
    have f3_b := V3_b.2.2
    have L3_b := V3_b.lt
    have N3_b := Nat.ne_of_gt L3_b
    have M3_b := Nat.ne_of_lt L3_b
    have V3_r : M.Var w3 (w.heap.size + 1 + 1) #[.int .i64 0, .int .i64 0, .int .i64 0, .int .i64 0, .int .i64 0, .int .i64 0, .int .i64 0, .int .i64 0] := M.Var.mono (b := w.heap.size + 1 + 1) (cs := #[.int .i64 0, .int .i64 0, .int .i64 0, .int .i64 0, .int .i64 0, .int .i64 0, .int .i64 0, .int .i64 0]) (by (repeat (first | (with_reducible assumption) | (with_reducible apply M.var_setV) | (with_reducible apply M.var_setI) | (with_reducible apply M.var_setB) | (with_reducible apply M.var_setHt) | (with_reducible apply M.var_setBd) | (with_reducible apply M.var_set2) | (with_reducible apply M.var_set3) | (with_reducible apply M.var_set4) | (with_reducible apply M.var_set45) | (with_reducible apply M.var_set67) | (with_reducible apply M.var_setF) | (with_reducible refine M.var_alloc' _ _ _ ?_; first | rfl | (focus (simp [go_sem]; done))) | (with_reducible refine M.Var.alloc ?_ _) | (with_reducible refine M.Var.drewN ?_ _) | (with_reducible refine M.Var.drew ?_) | (with_reducible refine M.Var.far ?_ _ _ ?hFar; case hFar => (first | omega | ((try simp [go_sem]) <;> omega))) | fail))) hb
    have q3_r_0 : w3.cell? ⟨w.heap.size + 1 + 1, 0, none⟩ = some (.int .i64 0) := V3_r.c 0 _ rfl
    have q3_r_1 : w3.cell? ⟨w.heap.size + 1 + 1, 1, none⟩ = some (.int .i64 0) := V3_r.c 1 _ rfl
    have q3_r_2 : w3.cell? ⟨w.heap.size + 1 + 1, 2, none⟩ = some (.int .i64 0) := V3_r.c 2 _ rfl
    have q3_r_3 : w3.cell? ⟨w.heap.size + 1 + 1, 3, none⟩ = some (.int .i64 0) := V3_r.c 3 _ rfl
    have q3_r_4 : w3.cell? ⟨w.heap.size + 1 + 1, 4, none⟩ = some (.int .i64 0) := V3_r.c 4 _ rfl
    have q3_r_5 : w3.cell? ⟨w.heap.size + 1 + 1, 5, none⟩ = some (.int .i64 0) := V3_r.c 5 _ rfl
    have q3_r_6 : w3.cell? ⟨w.heap.size + 1 + 1, 6, none⟩ = some (.int .i64 0) := V3_r.c 6 _ rfl
    have q3_r_7 : w3.cell? ⟨w.heap.size + 1 + 1, 7, none⟩ = some (.int .i64 0) := V3_r.c 7 _ rfl
    have f3_r := V3_r.2.2
    have L3_r := V3_r.lt
    have N3_r := Nat.ne_of_gt L3_r
    have M3_r := Nat.ne_of_lt L3_r
    have V3_s : M.Var w3 (w.heap.size + 1 + 1 + 1) #[.int .i64 0, .int .i64 0, .int .i64 0, .int .i64 0, .int .i64 0, .int .i64 0, .int .i64 0, .int .i64 0] := M.Var.mono (b := w.heap.size + 1 + 1 + 1) (cs := #[.int .i64 0, .int .i64 0, .int .i64 0, .int .i64 0, .int .i64 0, .int .i64 0, .int .i64 0, .int .i64 0]) (by (repeat (first | (with_reducible assumption) | (with_reducible apply M.var_setV) | (with_reducible apply M.var_setI) | (with_reducible apply M.var_setB) | (with_reducible apply M.var_setHt) | (with_reducible apply M.var_setBd) | (with_reducible apply M.var_set2) | (with_reducible apply M.var_set3) | (with_reducible apply M.var_set4) | (with_reducible apply M.var_set45) | (with_reducible apply M.var_set67) | (with_reducible apply M.var_setF) | (with_reducible refine M.var_alloc' _ _ _ ?_; first | rfl | (focus (simp [go_sem]; done))) | (with_reducible refine M.Var.alloc ?_ _) | (with_reducible refine M.Var.drewN ?_ _) | (with_reducible refine M.Var.drew ?_) | (with_reducible refine M.Var.far ?_ _ _ ?hFar; case hFar => (first | omega | ((try simp [go_sem]) <;> omega))) | fail))) hb
    have q3_s_0 : w3.cell? ⟨w.heap.size + 1 + 1 + 1, 0, none⟩ = some (.int .i64 0) := V3_s.c 0 _ rfl
    have q3_s_1 : w3.cell? ⟨w.heap.size + 1 + 1 + 1, 1, none⟩ = some (.int .i64 0) := V3_s.c 1 _ rfl
    have q3_s_2 : w3.cell? ⟨w.heap.size + 1 + 1 + 1, 2, none⟩ = some (.int .i64 0) := V3_s.c 2 _ rfl
    have q3_s_3 : w3.cell? ⟨w.heap.size + 1 + 1 + 1, 3, none⟩ = some (.int .i64 0) := V3_s.c 3 _ rfl
    have q3_s_4 : w3.cell? ⟨w.heap.size + 1 + 1 + 1, 4, none⟩ = some (.int .i64 0) := V3_s.c 4 _ rfl
    have q3_s_5 : w3.cell? ⟨w.heap.size + 1 + 1 + 1, 5, none⟩ = some (.int .i64 0) := V3_s.c 5 _ rfl
    have q3_s_6 : w3.cell? ⟨w.heap.size + 1 + 1 + 1, 6, none⟩ = some (.int .i64 0) := V3_s.c 6 _ rfl
    have q3_s_7 : w3.cell? ⟨w.heap.size + 1 + 1 + 1, 7, none⟩ = some (.int .i64 0) := V3_s.c 7 _ rfl
    have f3_s := V3_s.2.2
    have L3_s := V3_s.lt
    have N3_s := Nat.ne_of_gt L3_s
    have M3_s := Nat.ne_of_lt L3_s
    have V3_n : M.Var w3 (w2.heap.size) #[.int .i64 nx, .int .i64 ny] := M.Var.mono (b := w2.heap.size) (cs := #[.int .i64 nx, .int .i64 ny]) (by (repeat (first | (with_reducible assumption) | (with_reducible apply M.var_setV) | (with_reducible apply M.var_setI) | (with_reducible apply M.var_setB) | (with_reducible apply M.var_setHt) | (with_reducible apply M.var_setBd) | (with_reducible apply M.var_set2) | (with_reducible apply M.var_set3) | (with_reducible apply M.var_set4) | (with_reducible apply M.var_set45) | (with_reducible apply M.var_set67) | (with_reducible apply M.var_setF) | (with_reducible refine M.var_alloc' _ _ _ ?_; first | rfl | (focus (simp [go_sem]; done))) | (with_reducible refine M.Var.alloc ?_ _) | (with_reducible refine M.Var.drewN ?_ _) | (with_reducible refine M.Var.drew ?_) | (with_reducible refine M.Var.far ?_ _ _ ?hFar; case hFar => (first | omega | ((try simp [go_sem]) <;> omega))) | fail))) hb
    have q3_n_0 : w3.cell? ⟨w2.heap.size, 0, none⟩ = some (.int .i64 nx) := V3_n.c 0 _ rfl
    have q3_n_1 : w3.cell? ⟨w2.heap.size, 1, none⟩ = some (.int .i64 ny) := V3_n.c 1 _ rfl
    have f3_n := V3_n.2.2
    have L3_n := V3_n.lt
    have N3_n := Nat.ne_of_gt L3_n
    have M3_n := Nat.ne_of_lt L3_n
    clear V2_a f2_a q2_a_0 q2_a_1 q2_a_2 q2_a_3 q2_a_4 q2_a_5 q2_a_6 q2_a_7 V2_b f2_b q2_b_0 q2_b_1 q2_b_2 q2_b_3 q2_b_4 q2_b_5 q2_b_6 q2_b_7 V2_r f2_r q2_r_0 q2_r_1 q2_r_2 q2_r_3 q2_r_4 q2_r_5 q2_r_6 q2_r_7 V2_s f2_s q2_s_0 q2_s_1 q2_s_2 q2_s_3 q2_s_4 q2_s_5 q2_s_6 q2_s_7
    have S3 := G3.size
    have HG3 := Lib.hid G3; clear G3 hb
    rcases ho with ⟨n3, hn3, hz3, rfl⟩ | ⟨k, hk, ik, rfl⟩
    · exact ⟨rfl, .inl ⟨n3, by unfold jointX Bd.pos; simp only [Hhd.out, Hhu.out, if_neg h0, hn3, andThen_ok, andThen_err], hz3, rfl⟩, HG3.out⟩
    have Hhk := Lib.hid hk; clear hk
    go_wp2_with (with_reducible refine M.stopPost ?_)
    · have h3 : k = 0 := beq_iff_eq.1 (by assumption)
      go_region_held2 (fun w' => w'.cell? ⟨w.heap.size, 0, none⟩ = some (.int .i64 a.shape) ∧ w'.cell? ⟨w.heap.size, 1, none⟩ = some (.int .i64 a.sx) ∧ w'.cell? ⟨w.heap.size, 2, none⟩ = some (.int .i64 a.sy) ∧ w'.cell? ⟨w.heap.size, 3, none⟩ = some (.int .i64 a.mass) ∧ w'.cell? ⟨w.heap.size, 4, none⟩ = some (.int .i64 a.px) ∧ w'.cell? ⟨w.heap.size, 5, none⟩ = some (.int .i64 a.py) ∧ w'.cell? ⟨w.heap.size, 6, none⟩ = some (.int .i64 a.mx) ∧ w'.cell? ⟨w.heap.size, 7, none⟩ = some (.int .i64 a.my) ∧ w'.cell? ⟨w.heap.size + 1, 0, none⟩ = some (.int .i64 b.shape) ∧ w'.cell? ⟨w.heap.size + 1, 1, none⟩ = some (.int .i64 b.sx) ∧ w'.cell? ⟨w.heap.size + 1, 2, none⟩ = some (.int .i64 b.sy) ∧ w'.cell? ⟨w.heap.size + 1, 3, none⟩ = some (.int .i64 b.mass) ∧ w'.cell? ⟨w.heap.size + 1, 4, none⟩ = some (.int .i64 b.px) ∧ w'.cell? ⟨w.heap.size + 1, 5, none⟩ = some (.int .i64 b.py) ∧ w'.cell? ⟨w.heap.size + 1, 6, none⟩ = some (.int .i64 b.mx) ∧ w'.cell? ⟨w.heap.size + 1, 7, none⟩ = some (.int .i64 b.my)) (first | (go_keep; done) | (simp [*, go_sem, World.cell?_alloc_some, World.cell?_setCell_far]; done))
        (fail)
      all_goals go_wp2_with (with_reducible refine M.stopPost ?_)
      all_goals (try refine M.Stop.mk ?_)
      all_goals refine bodyPost_ret (v := .tuple #[.agg #[.int .i64 a.shape, .int .i64 a.sx, .int .i64 a.sy, .int .i64 a.mass, .int .i64 a.px, .int .i64 a.py, .int .i64 a.mx, .int .i64 a.my], .agg #[.int .i64 b.shape, .int .i64 b.sx, .int .i64 b.sy, .int .i64 b.mass, .int .i64 b.px, .int .i64 b.py, .int .i64 b.mx, .int .i64 b.my]]) (by first | (simp [results, Try.results32, go_sem, q3_r_0, q3_r_1, q3_r_2, q3_r_3, q3_r_4, q3_r_5, q3_r_6, q3_r_7, f3_r, L3_r, N3_r, M3_r, q3_s_0, q3_s_1, q3_s_2, q3_s_3, q3_s_4, q3_s_5, q3_s_6, q3_s_7, f3_s, L3_s, N3_s, M3_s]; done) | (simp [results, Try.results32, go_sem, *]; done)) rfl ⟨.inr ⟨a, b, by unfold jointX Bd.pos; simp only [Hhd.out, Hhu.out, if_neg h0, Hhk.out, if_pos h3, andThen_ok, andThen_err], HA.out, HB.out, rfl⟩, by have G := HG3.out; (repeat (with_reducible refine M.Below.drewN ?_ _)); go_grown⟩
    · have h3 : ¬ k = 0 := beq_eq_false_iff_ne.1 (by assumption)
      (with_reducible refine ((C4.out _ _ inx iny) _).mono ?_); rintro en w4 ⟨ho, hb⟩
      have G4 : Below w.heap.size w w4 := Below.trans (by have G := HG3.out; (repeat (with_reducible refine M.Below.drewN ?_ _)); go_grown) (hb.mono (by go_size))
      have V4_a : M.Var w4 (w.heap.size) #[.int .i64 a.shape, .int .i64 a.sx, .int .i64 a.sy, .int .i64 a.mass, .int .i64 a.px, .int .i64 a.py, .int .i64 a.mx, .int .i64 a.my] := M.Var.mono (b := w.heap.size) (cs := #[.int .i64 a.shape, .int .i64 a.sx, .int .i64 a.sy, .int .i64 a.mass, .int .i64 a.px, .int .i64 a.py, .int .i64 a.mx, .int .i64 a.my]) (by (repeat (first | (with_reducible assumption) | (with_reducible apply M.var_setV) | (with_reducible apply M.var_setI) | (with_reducible apply M.var_setB) | (with_reducible apply M.var_setHt) | (with_reducible apply M.var_setBd) | (with_reducible apply M.var_set2) | (with_reducible apply M.var_set3) | (with_reducible apply M.var_set4) | (with_reducible apply M.var_set45) | (with_reducible apply M.var_set67) | (with_reducible apply M.var_setF) | (with_reducible refine M.var_alloc' _ _ _ ?_; first | rfl | (focus (simp [go_sem]; done))) | (with_reducible refine M.Var.alloc ?_ _) | (with_reducible refine M.Var.drewN ?_ _) | (with_reducible refine M.Var.drew ?_) | (with_reducible refine M.Var.far ?_ _ _ ?hFar; case hFar => (first | omega | ((try simp [go_sem]) <;> omega))) | fail))) hb
      have q4_a_0 : w4.cell? ⟨w.heap.size, 0, none⟩ = some (.int .i64 a.shape) := V4_a.c 0 _ rfl
      have q4_a_1 : w4.cell? ⟨w.heap.size, 1, none⟩ = some (.int .i64 a.sx) := V4_a.c 1 _ rfl
      have q4_a_2 : w4.cell? ⟨w.heap.size, 2, none⟩ = some (.int .i64 a.sy) := V4_a.c 2 _ rfl
      have q4_a_3 : w4.cell? ⟨w.heap.size, 3, none⟩ = some (.int .i64 a.mass) := V4_a.c 3 _ rfl
      have q4_a_4 : w4.cell? ⟨w.heap.size, 4, none⟩ = some (.int .i64 a.px) := V4_a.c 4 _ rfl
      have q4_a_5 : w4.cell? ⟨w.heap.size, 5, none⟩ = some (.int .i64 a.py) := V4_a.c 5 _ rfl
      have q4_a_6 : w4.cell? ⟨w.heap.size, 6, none⟩ = some (.int .i64 a.mx) := V4_a.c 6 _ rfl
      have q4_a_7 : w4.cell? ⟨w.heap.size, 7, none⟩ = some (.int .i64 a.my) := V4_a.c 7 _ rfl
      have f4_a := V4_a.2.2
      have L4_a := V4_a.lt
      have N4_a := Nat.ne_of_gt L4_a
      have M4_a := Nat.ne_of_lt L4_a
      have V4_b : M.Var w4 (w.heap.size + 1) #[.int .i64 b.shape, .int .i64 b.sx, .int .i64 b.sy, .int .i64 b.mass, .int .i64 b.px, .int .i64 b.py, .int .i64 b.mx, .int .i64 b.my] := M.Var.mono (b := w.heap.size + 1) (cs := #[.int .i64 b.shape, .int .i64 b.sx, .int .i64 b.sy, .int .i64 b.mass, .int .i64 b.px, .int .i64 b.py, .int .i64 b.mx, .int .i64 b.my]) (by (repeat (first | (with_reducible assumption) | (with_reducible apply M.var_setV) | (with_reducible apply M.var_setI) | (with_reducible apply M.var_setB) | (with_reducible apply M.var_setHt) | (with_reducible apply M.var_setBd) | (with_reducible apply M.var_set2) | (with_reducible apply M.var_set3) | (with_reducible apply M.var_set4) | (with_reducible apply M.var_set45) | (with_reducible apply M.var_set67) | (with_reducible apply M.var_setF) | (with_reducible refine M.var_alloc' _ _ _ ?_; first | rfl | (focus (simp [go_sem]; done))) | (with_reducible refine M.Var.alloc ?_ _) | (with_reducible refine M.Var.drewN ?_ _) | (with_reducible refine M.Var.drew ?_) | (with_reducible refine M.Var.far ?_ _ _ ?hFar; case hFar => (first | omega | ((try simp [go_sem]) <;> omega))) | fail))) hb
      have q4_b_0 : w4.cell? ⟨w.heap.size + 1, 0, none⟩ = some (.int .i64 b.shape) := V4_b.c 0 _ rfl
      have q4_b_1 : w4.cell? ⟨w.heap.size + 1, 1, none⟩ = some (.int .i64 b.sx) := V4_b.c 1 _ rfl
      have q4_b_2 : w4.cell? ⟨w.heap.size + 1, 2, none⟩ = some (.int .i64 b.sy) := V4_b.c 2 _ rfl
      have q4_b_3 : w4.cell? ⟨w.heap.size + 1, 3, none⟩ = some (.int .i64 b.mass) := V4_b.c 3 _ rfl
      have q4_b_4 : w4.cell? ⟨w.heap.size + 1, 4, none⟩ = some (.int .i64 b.px) := V4_b.c 4 _ rfl
      have q4_b_5 : w4.cell? ⟨w.heap.size + 1, 5, none⟩ = some (.int .i64 b.py) := V4_b.c 5 _ rfl
      have q4_b_6 : w4.cell? ⟨w.heap.size + 1, 6, none⟩ = some (.int .i64 b.mx) := V4_b.c 6 _ rfl
      have q4_b_7 : w4.cell? ⟨w.heap.size + 1, 7, none⟩ = some (.int .i64 b.my) := V4_b.c 7 _ rfl
      have f4_b := V4_b.2.2
      have L4_b := V4_b.lt
      have N4_b := Nat.ne_of_gt L4_b
      have M4_b := Nat.ne_of_lt L4_b
      have V4_r : M.Var w4 (w.heap.size + 1 + 1) #[.int .i64 0, .int .i64 0, .int .i64 0, .int .i64 0, .int .i64 0, .int .i64 0, .int .i64 0, .int .i64 0] := M.Var.mono (b := w.heap.size + 1 + 1) (cs := #[.int .i64 0, .int .i64 0, .int .i64 0, .int .i64 0, .int .i64 0, .int .i64 0, .int .i64 0, .int .i64 0]) (by (repeat (first | (with_reducible assumption) | (with_reducible apply M.var_setV) | (with_reducible apply M.var_setI) | (with_reducible apply M.var_setB) | (with_reducible apply M.var_setHt) | (with_reducible apply M.var_setBd) | (with_reducible apply M.var_set2) | (with_reducible apply M.var_set3) | (with_reducible apply M.var_set4) | (with_reducible apply M.var_set45) | (with_reducible apply M.var_set67) | (with_reducible apply M.var_setF) | (with_reducible refine M.var_alloc' _ _ _ ?_; first | rfl | (focus (simp [go_sem]; done))) | (with_reducible refine M.Var.alloc ?_ _) | (with_reducible refine M.Var.drewN ?_ _) | (with_reducible refine M.Var.drew ?_) | (with_reducible refine M.Var.far ?_ _ _ ?hFar; case hFar => (first | omega | ((try simp [go_sem]) <;> omega))) | fail))) hb
      have q4_r_0 : w4.cell? ⟨w.heap.size + 1 + 1, 0, none⟩ = some (.int .i64 0) := V4_r.c 0 _ rfl
      have q4_r_1 : w4.cell? ⟨w.heap.size + 1 + 1, 1, none⟩ = some (.int .i64 0) := V4_r.c 1 _ rfl
      have q4_r_2 : w4.cell? ⟨w.heap.size + 1 + 1, 2, none⟩ = some (.int .i64 0) := V4_r.c 2 _ rfl
      have q4_r_3 : w4.cell? ⟨w.heap.size + 1 + 1, 3, none⟩ = some (.int .i64 0) := V4_r.c 3 _ rfl
      have q4_r_4 : w4.cell? ⟨w.heap.size + 1 + 1, 4, none⟩ = some (.int .i64 0) := V4_r.c 4 _ rfl
      have q4_r_5 : w4.cell? ⟨w.heap.size + 1 + 1, 5, none⟩ = some (.int .i64 0) := V4_r.c 5 _ rfl
      have q4_r_6 : w4.cell? ⟨w.heap.size + 1 + 1, 6, none⟩ = some (.int .i64 0) := V4_r.c 6 _ rfl
      have q4_r_7 : w4.cell? ⟨w.heap.size + 1 + 1, 7, none⟩ = some (.int .i64 0) := V4_r.c 7 _ rfl
      have f4_r := V4_r.2.2
      have L4_r := V4_r.lt
      have N4_r := Nat.ne_of_gt L4_r
      have M4_r := Nat.ne_of_lt L4_r
      have V4_s : M.Var w4 (w.heap.size + 1 + 1 + 1) #[.int .i64 0, .int .i64 0, .int .i64 0, .int .i64 0, .int .i64 0, .int .i64 0, .int .i64 0, .int .i64 0] := M.Var.mono (b := w.heap.size + 1 + 1 + 1) (cs := #[.int .i64 0, .int .i64 0, .int .i64 0, .int .i64 0, .int .i64 0, .int .i64 0, .int .i64 0, .int .i64 0]) (by (repeat (first | (with_reducible assumption) | (with_reducible apply M.var_setV) | (with_reducible apply M.var_setI) | (with_reducible apply M.var_setB) | (with_reducible apply M.var_setHt) | (with_reducible apply M.var_setBd) | (with_reducible apply M.var_set2) | (with_reducible apply M.var_set3) | (with_reducible apply M.var_set4) | (with_reducible apply M.var_set45) | (with_reducible apply M.var_set67) | (with_reducible apply M.var_setF) | (with_reducible refine M.var_alloc' _ _ _ ?_; first | rfl | (focus (simp [go_sem]; done))) | (with_reducible refine M.Var.alloc ?_ _) | (with_reducible refine M.Var.drewN ?_ _) | (with_reducible refine M.Var.drew ?_) | (with_reducible refine M.Var.far ?_ _ _ ?hFar; case hFar => (first | omega | ((try simp [go_sem]) <;> omega))) | fail))) hb
      have q4_s_0 : w4.cell? ⟨w.heap.size + 1 + 1 + 1, 0, none⟩ = some (.int .i64 0) := V4_s.c 0 _ rfl
      have q4_s_1 : w4.cell? ⟨w.heap.size + 1 + 1 + 1, 1, none⟩ = some (.int .i64 0) := V4_s.c 1 _ rfl
      have q4_s_2 : w4.cell? ⟨w.heap.size + 1 + 1 + 1, 2, none⟩ = some (.int .i64 0) := V4_s.c 2 _ rfl
      have q4_s_3 : w4.cell? ⟨w.heap.size + 1 + 1 + 1, 3, none⟩ = some (.int .i64 0) := V4_s.c 3 _ rfl
      have q4_s_4 : w4.cell? ⟨w.heap.size + 1 + 1 + 1, 4, none⟩ = some (.int .i64 0) := V4_s.c 4 _ rfl
      have q4_s_5 : w4.cell? ⟨w.heap.size + 1 + 1 + 1, 5, none⟩ = some (.int .i64 0) := V4_s.c 5 _ rfl
      have q4_s_6 : w4.cell? ⟨w.heap.size + 1 + 1 + 1, 6, none⟩ = some (.int .i64 0) := V4_s.c 6 _ rfl
      have q4_s_7 : w4.cell? ⟨w.heap.size + 1 + 1 + 1, 7, none⟩ = some (.int .i64 0) := V4_s.c 7 _ rfl
      have f4_s := V4_s.2.2
      have L4_s := V4_s.lt
      have N4_s := Nat.ne_of_gt L4_s
      have M4_s := Nat.ne_of_lt L4_s
      have V4_n : M.Var w4 (w2.heap.size) #[.int .i64 nx, .int .i64 ny] := M.Var.mono (b := w2.heap.size) (cs := #[.int .i64 nx, .int .i64 ny]) (by (repeat (first | (with_reducible assumption) | (with_reducible apply M.var_setV) | (with_reducible apply M.var_setI) | (with_reducible apply M.var_setB) | (with_reducible apply M.var_setHt) | (with_reducible apply M.var_setBd) | (with_reducible apply M.var_set2) | (with_reducible apply M.var_set3) | (with_reducible apply M.var_set4) | (with_reducible apply M.var_set45) | (with_reducible apply M.var_set67) | (with_reducible apply M.var_setF) | (with_reducible refine M.var_alloc' _ _ _ ?_; first | rfl | (focus (simp [go_sem]; done))) | (with_reducible refine M.Var.alloc ?_ _) | (with_reducible refine M.Var.drewN ?_ _) | (with_reducible refine M.Var.drew ?_) | (with_reducible refine M.Var.far ?_ _ _ ?hFar; case hFar => (first | omega | ((try simp [go_sem]) <;> omega))) | fail))) hb
      have q4_n_0 : w4.cell? ⟨w2.heap.size, 0, none⟩ = some (.int .i64 nx) := V4_n.c 0 _ rfl
      have q4_n_1 : w4.cell? ⟨w2.heap.size, 1, none⟩ = some (.int .i64 ny) := V4_n.c 1 _ rfl
      have f4_n := V4_n.2.2
      have L4_n := V4_n.lt
      have N4_n := Nat.ne_of_gt L4_n
      have M4_n := Nat.ne_of_lt L4_n
      clear V3_a f3_a L3_a N3_a M3_a q3_a_0 q3_a_1 q3_a_2 q3_a_3 q3_a_4 q3_a_5 q3_a_6 q3_a_7 V3_b f3_b L3_b N3_b M3_b q3_b_0 q3_b_1 q3_b_2 q3_b_3 q3_b_4 q3_b_5 q3_b_6 q3_b_7 V3_r f3_r L3_r N3_r M3_r q3_r_0 q3_r_1 q3_r_2 q3_r_3 q3_r_4 q3_r_5 q3_r_6 q3_r_7 V3_s f3_s L3_s N3_s M3_s q3_s_0 q3_s_1 q3_s_2 q3_s_3 q3_s_4 q3_s_5 q3_s_6 q3_s_7 V3_n f3_n L3_n N3_n M3_n q3_n_0 q3_n_1
      have S4 := G4.size
      have HG4 := Lib.hid G4; clear G4 hb
      rcases ho with ⟨n4, hn4, hz4, rfl⟩ | ⟨v, hv, iv, rfl⟩
      · exact ⟨rfl, .inl ⟨n4, by unfold jointX Bd.pos; simp only [Hhd.out, Hhu.out, if_neg h0, Hhk.out, if_neg h3, hn4, andThen_ok, andThen_err], hz4, rfl⟩, HG4.out⟩
      have Hhv := Lib.hid hv; clear hv
      go_wp2_with (with_reducible refine M.stopPost ?_)
      (with_reducible refine ((C5.out _ _ il hl) _).mono ?_); rintro en w' ⟨⟨n5, hn5, hz5, rfl⟩ | ⟨xs, hxs, ixs, rfl⟩, d5, rfl⟩
      · exact ⟨rfl, .inl ⟨n5, by unfold jointX Bd.pos; simp only [Hhd.out, Hhu.out, if_neg h0, Hhk.out, if_neg h3, Hhv.out, hn5, andThen_ok, andThen_err], hz5, rfl⟩, by have G := HG4.out; (repeat (with_reducible refine M.Below.drewN ?_ _)); go_grown⟩
      have Hhxs := Lib.hid hxs; clear hxs
      go_wp2_with (with_reducible refine M.stopPost ?_)
      (with_reducible refine ((C6.out _ _ ixs z8) _).mono ?_); rintro en w' ⟨⟨n6, hn6, hz6, rfl⟩ | ⟨xm, hxm, ixm, rfl⟩, d6, rfl⟩
      · exact ⟨rfl, .inl ⟨n6, by unfold jointX Bd.pos; simp only [Hhd.out, Hhu.out, if_neg h0, Hhk.out, if_neg h3, Hhv.out, Hhxs.out, hn6, andThen_ok, andThen_err], hz6, rfl⟩, by have G := HG4.out; (repeat (with_reducible refine M.Below.drewN ?_ _)); go_grown⟩
      have Hhxm := Lib.hid hxm; clear hxm
      go_wp2_with (with_reducible refine M.stopPost ?_)
      (with_reducible refine ((C7.out _ _ iv ixm) _).mono ?_); rintro en w' ⟨⟨n7, hn7, hz7, rfl⟩ | ⟨xt, hxt, ixt, rfl⟩, d7, rfl⟩
      · exact ⟨rfl, .inl ⟨n7, by unfold jointX Bd.pos; simp only [Hhd.out, Hhu.out, if_neg h0, Hhk.out, if_neg h3, Hhv.out, Hhxs.out, Hhxm.out, hn7, andThen_ok, andThen_err], hz7, rfl⟩, by have G := HG4.out; (repeat (with_reducible refine M.Below.drewN ?_ _)); go_grown⟩
      have Hhxt := Lib.hid hxt; clear hxt
      go_wp2_with (with_reducible refine M.stopPost ?_)
      (with_reducible refine ((C5.out _ _ z ixt) _).mono ?_); rintro en w' ⟨⟨n8, hn8, hz8, rfl⟩ | ⟨xz, hxz, ixz, rfl⟩, d8, rfl⟩
      · exact ⟨rfl, .inl ⟨n8, by unfold jointX Bd.pos; simp only [Hhd.out, Hhu.out, if_neg h0, Hhk.out, if_neg h3, Hhv.out, Hhxs.out, Hhxm.out, Hhxt.out, hn8, andThen_ok, andThen_err], hz8, rfl⟩, by have G := HG4.out; (repeat (with_reducible refine M.Below.drewN ?_ _)); go_grown⟩
      have Hhxz := Lib.hid hxz; clear hxz
      go_wp2_with (with_reducible refine M.stopPost ?_)
      (with_reducible refine ((C8.out _ _ ixz ik) _).mono ?_); rintro en w' ⟨⟨n9, hn9, hz9, rfl⟩ | ⟨xj, hxj, ixj, rfl⟩, d9, rfl⟩
      · exact ⟨rfl, .inl ⟨n9, by unfold jointX Bd.pos; simp only [Hhd.out, Hhu.out, if_neg h0, Hhk.out, if_neg h3, Hhv.out, Hhxs.out, Hhxm.out, Hhxt.out, Hhxz.out, hn9, andThen_ok, andThen_err], hz9, rfl⟩, by have G := HG4.out; (repeat (with_reducible refine M.Below.drewN ?_ _)); go_grown⟩
      have Hhxj := Lib.hid hxj; clear hxj
      go_wp2_with (with_reducible refine M.stopPost ?_)
      go_region_held2 (fun w' => w'.cell? ⟨w.heap.size, 0, none⟩ = some (.int .i64 a.shape) ∧ w'.cell? ⟨w.heap.size, 1, none⟩ = some (.int .i64 a.sx) ∧ w'.cell? ⟨w.heap.size, 2, none⟩ = some (.int .i64 a.sy) ∧ w'.cell? ⟨w.heap.size, 3, none⟩ = some (.int .i64 a.mass) ∧ w'.cell? ⟨w.heap.size, 4, none⟩ = some (.int .i64 a.px) ∧ w'.cell? ⟨w.heap.size, 5, none⟩ = some (.int .i64 a.py) ∧ w'.cell? ⟨w.heap.size, 6, none⟩ = some (.int .i64 a.mx) ∧ w'.cell? ⟨w.heap.size, 7, none⟩ = some (.int .i64 a.my) ∧ w'.cell? ⟨w.heap.size + 1, 0, none⟩ = some (.int .i64 b.shape) ∧ w'.cell? ⟨w.heap.size + 1, 1, none⟩ = some (.int .i64 b.sx) ∧ w'.cell? ⟨w.heap.size + 1, 2, none⟩ = some (.int .i64 b.sy) ∧ w'.cell? ⟨w.heap.size + 1, 3, none⟩ = some (.int .i64 b.mass) ∧ w'.cell? ⟨w.heap.size + 1, 4, none⟩ = some (.int .i64 b.px) ∧ w'.cell? ⟨w.heap.size + 1, 5, none⟩ = some (.int .i64 b.py) ∧ w'.cell? ⟨w.heap.size + 1, 6, none⟩ = some (.int .i64 b.mx) ∧ w'.cell? ⟨w.heap.size + 1, 7, none⟩ = some (.int .i64 b.my) ∧ w'.cell? ⟨w2.heap.size, 0, none⟩ = some (.int .i64 nx) ∧ w'.cell? ⟨w2.heap.size, 1, none⟩ = some (.int .i64 ny)) (first | (go_keep; done) | (simp [*, go_sem, World.cell?_alloc_some, World.cell?_setCell_far]; done))
        (first
        | (go_at_call 72; refine ((C9.out _ _ _ inx iny ixj) _).mono ?_; rintro en w10 ⟨ho, hb⟩
           have G10 : Below w.heap.size w w10 := Below.trans (by have G := HG4.out; (repeat (with_reducible refine M.Below.drewN ?_ _)); go_grown) (hb.mono (by go_size))
           have V10_a : M.Var w10 (w.heap.size) #[.int .i64 a.shape, .int .i64 a.sx, .int .i64 a.sy, .int .i64 a.mass, .int .i64 a.px, .int .i64 a.py, .int .i64 a.mx, .int .i64 a.my] := M.Var.mono (b := w.heap.size) (cs := #[.int .i64 a.shape, .int .i64 a.sx, .int .i64 a.sy, .int .i64 a.mass, .int .i64 a.px, .int .i64 a.py, .int .i64 a.mx, .int .i64 a.my]) (by (repeat (first | (with_reducible assumption) | (with_reducible apply M.var_setV) | (with_reducible apply M.var_setI) | (with_reducible apply M.var_setB) | (with_reducible apply M.var_setHt) | (with_reducible apply M.var_setBd) | (with_reducible apply M.var_set2) | (with_reducible apply M.var_set3) | (with_reducible apply M.var_set4) | (with_reducible apply M.var_set45) | (with_reducible apply M.var_set67) | (with_reducible apply M.var_setF) | (with_reducible refine M.var_alloc' _ _ _ ?_; first | rfl | (focus (simp [go_sem]; done))) | (with_reducible refine M.Var.alloc ?_ _) | (with_reducible refine M.Var.drewN ?_ _) | (with_reducible refine M.Var.drew ?_) | (with_reducible refine M.Var.far ?_ _ _ ?hFar; case hFar => (first | omega | ((try simp [go_sem]) <;> omega))) | fail))) hb
           have q10_a_0 : w10.cell? ⟨w.heap.size, 0, none⟩ = some (.int .i64 a.shape) := V10_a.c 0 _ rfl
           have q10_a_1 : w10.cell? ⟨w.heap.size, 1, none⟩ = some (.int .i64 a.sx) := V10_a.c 1 _ rfl
           have q10_a_2 : w10.cell? ⟨w.heap.size, 2, none⟩ = some (.int .i64 a.sy) := V10_a.c 2 _ rfl
           have q10_a_3 : w10.cell? ⟨w.heap.size, 3, none⟩ = some (.int .i64 a.mass) := V10_a.c 3 _ rfl
           have q10_a_4 : w10.cell? ⟨w.heap.size, 4, none⟩ = some (.int .i64 a.px) := V10_a.c 4 _ rfl
           have q10_a_5 : w10.cell? ⟨w.heap.size, 5, none⟩ = some (.int .i64 a.py) := V10_a.c 5 _ rfl
           have q10_a_6 : w10.cell? ⟨w.heap.size, 6, none⟩ = some (.int .i64 a.mx) := V10_a.c 6 _ rfl
           have q10_a_7 : w10.cell? ⟨w.heap.size, 7, none⟩ = some (.int .i64 a.my) := V10_a.c 7 _ rfl
           have f10_a := V10_a.2.2
           have L10_a := V10_a.lt
           have N10_a := Nat.ne_of_gt L10_a
           have M10_a := Nat.ne_of_lt L10_a
           have V10_b : M.Var w10 (w.heap.size + 1) #[.int .i64 b.shape, .int .i64 b.sx, .int .i64 b.sy, .int .i64 b.mass, .int .i64 b.px, .int .i64 b.py, .int .i64 b.mx, .int .i64 b.my] := M.Var.mono (b := w.heap.size + 1) (cs := #[.int .i64 b.shape, .int .i64 b.sx, .int .i64 b.sy, .int .i64 b.mass, .int .i64 b.px, .int .i64 b.py, .int .i64 b.mx, .int .i64 b.my]) (by (repeat (first | (with_reducible assumption) | (with_reducible apply M.var_setV) | (with_reducible apply M.var_setI) | (with_reducible apply M.var_setB) | (with_reducible apply M.var_setHt) | (with_reducible apply M.var_setBd) | (with_reducible apply M.var_set2) | (with_reducible apply M.var_set3) | (with_reducible apply M.var_set4) | (with_reducible apply M.var_set45) | (with_reducible apply M.var_set67) | (with_reducible apply M.var_setF) | (with_reducible refine M.var_alloc' _ _ _ ?_; first | rfl | (focus (simp [go_sem]; done))) | (with_reducible refine M.Var.alloc ?_ _) | (with_reducible refine M.Var.drewN ?_ _) | (with_reducible refine M.Var.drew ?_) | (with_reducible refine M.Var.far ?_ _ _ ?hFar; case hFar => (first | omega | ((try simp [go_sem]) <;> omega))) | fail))) hb
           have q10_b_0 : w10.cell? ⟨w.heap.size + 1, 0, none⟩ = some (.int .i64 b.shape) := V10_b.c 0 _ rfl
           have q10_b_1 : w10.cell? ⟨w.heap.size + 1, 1, none⟩ = some (.int .i64 b.sx) := V10_b.c 1 _ rfl
           have q10_b_2 : w10.cell? ⟨w.heap.size + 1, 2, none⟩ = some (.int .i64 b.sy) := V10_b.c 2 _ rfl
           have q10_b_3 : w10.cell? ⟨w.heap.size + 1, 3, none⟩ = some (.int .i64 b.mass) := V10_b.c 3 _ rfl
           have q10_b_4 : w10.cell? ⟨w.heap.size + 1, 4, none⟩ = some (.int .i64 b.px) := V10_b.c 4 _ rfl
           have q10_b_5 : w10.cell? ⟨w.heap.size + 1, 5, none⟩ = some (.int .i64 b.py) := V10_b.c 5 _ rfl
           have q10_b_6 : w10.cell? ⟨w.heap.size + 1, 6, none⟩ = some (.int .i64 b.mx) := V10_b.c 6 _ rfl
           have q10_b_7 : w10.cell? ⟨w.heap.size + 1, 7, none⟩ = some (.int .i64 b.my) := V10_b.c 7 _ rfl
           have f10_b := V10_b.2.2
           have L10_b := V10_b.lt
           have N10_b := Nat.ne_of_gt L10_b
           have M10_b := Nat.ne_of_lt L10_b
           have V10_r : M.Var w10 (w.heap.size + 1 + 1) #[.int .i64 0, .int .i64 0, .int .i64 0, .int .i64 0, .int .i64 0, .int .i64 0, .int .i64 0, .int .i64 0] := M.Var.mono (b := w.heap.size + 1 + 1) (cs := #[.int .i64 0, .int .i64 0, .int .i64 0, .int .i64 0, .int .i64 0, .int .i64 0, .int .i64 0, .int .i64 0]) (by (repeat (first | (with_reducible assumption) | (with_reducible apply M.var_setV) | (with_reducible apply M.var_setI) | (with_reducible apply M.var_setB) | (with_reducible apply M.var_setHt) | (with_reducible apply M.var_setBd) | (with_reducible apply M.var_set2) | (with_reducible apply M.var_set3) | (with_reducible apply M.var_set4) | (with_reducible apply M.var_set45) | (with_reducible apply M.var_set67) | (with_reducible apply M.var_setF) | (with_reducible refine M.var_alloc' _ _ _ ?_; first | rfl | (focus (simp [go_sem]; done))) | (with_reducible refine M.Var.alloc ?_ _) | (with_reducible refine M.Var.drewN ?_ _) | (with_reducible refine M.Var.drew ?_) | (with_reducible refine M.Var.far ?_ _ _ ?hFar; case hFar => (first | omega | ((try simp [go_sem]) <;> omega))) | fail))) hb
           have q10_r_0 : w10.cell? ⟨w.heap.size + 1 + 1, 0, none⟩ = some (.int .i64 0) := V10_r.c 0 _ rfl
           have q10_r_1 : w10.cell? ⟨w.heap.size + 1 + 1, 1, none⟩ = some (.int .i64 0) := V10_r.c 1 _ rfl
           have q10_r_2 : w10.cell? ⟨w.heap.size + 1 + 1, 2, none⟩ = some (.int .i64 0) := V10_r.c 2 _ rfl
           have q10_r_3 : w10.cell? ⟨w.heap.size + 1 + 1, 3, none⟩ = some (.int .i64 0) := V10_r.c 3 _ rfl
           have q10_r_4 : w10.cell? ⟨w.heap.size + 1 + 1, 4, none⟩ = some (.int .i64 0) := V10_r.c 4 _ rfl
           have q10_r_5 : w10.cell? ⟨w.heap.size + 1 + 1, 5, none⟩ = some (.int .i64 0) := V10_r.c 5 _ rfl
           have q10_r_6 : w10.cell? ⟨w.heap.size + 1 + 1, 6, none⟩ = some (.int .i64 0) := V10_r.c 6 _ rfl
           have q10_r_7 : w10.cell? ⟨w.heap.size + 1 + 1, 7, none⟩ = some (.int .i64 0) := V10_r.c 7 _ rfl
           have f10_r := V10_r.2.2
           have L10_r := V10_r.lt
           have N10_r := Nat.ne_of_gt L10_r
           have M10_r := Nat.ne_of_lt L10_r
           have V10_s : M.Var w10 (w.heap.size + 1 + 1 + 1) #[.int .i64 0, .int .i64 0, .int .i64 0, .int .i64 0, .int .i64 0, .int .i64 0, .int .i64 0, .int .i64 0] := M.Var.mono (b := w.heap.size + 1 + 1 + 1) (cs := #[.int .i64 0, .int .i64 0, .int .i64 0, .int .i64 0, .int .i64 0, .int .i64 0, .int .i64 0, .int .i64 0]) (by (repeat (first | (with_reducible assumption) | (with_reducible apply M.var_setV) | (with_reducible apply M.var_setI) | (with_reducible apply M.var_setB) | (with_reducible apply M.var_setHt) | (with_reducible apply M.var_setBd) | (with_reducible apply M.var_set2) | (with_reducible apply M.var_set3) | (with_reducible apply M.var_set4) | (with_reducible apply M.var_set45) | (with_reducible apply M.var_set67) | (with_reducible apply M.var_setF) | (with_reducible refine M.var_alloc' _ _ _ ?_; first | rfl | (focus (simp [go_sem]; done))) | (with_reducible refine M.Var.alloc ?_ _) | (with_reducible refine M.Var.drewN ?_ _) | (with_reducible refine M.Var.drew ?_) | (with_reducible refine M.Var.far ?_ _ _ ?hFar; case hFar => (first | omega | ((try simp [go_sem]) <;> omega))) | fail))) hb
           have q10_s_0 : w10.cell? ⟨w.heap.size + 1 + 1 + 1, 0, none⟩ = some (.int .i64 0) := V10_s.c 0 _ rfl
           have q10_s_1 : w10.cell? ⟨w.heap.size + 1 + 1 + 1, 1, none⟩ = some (.int .i64 0) := V10_s.c 1 _ rfl
           have q10_s_2 : w10.cell? ⟨w.heap.size + 1 + 1 + 1, 2, none⟩ = some (.int .i64 0) := V10_s.c 2 _ rfl
           have q10_s_3 : w10.cell? ⟨w.heap.size + 1 + 1 + 1, 3, none⟩ = some (.int .i64 0) := V10_s.c 3 _ rfl
           have q10_s_4 : w10.cell? ⟨w.heap.size + 1 + 1 + 1, 4, none⟩ = some (.int .i64 0) := V10_s.c 4 _ rfl
           have q10_s_5 : w10.cell? ⟨w.heap.size + 1 + 1 + 1, 5, none⟩ = some (.int .i64 0) := V10_s.c 5 _ rfl
           have q10_s_6 : w10.cell? ⟨w.heap.size + 1 + 1 + 1, 6, none⟩ = some (.int .i64 0) := V10_s.c 6 _ rfl
           have q10_s_7 : w10.cell? ⟨w.heap.size + 1 + 1 + 1, 7, none⟩ = some (.int .i64 0) := V10_s.c 7 _ rfl
           have f10_s := V10_s.2.2
           have L10_s := V10_s.lt
           have N10_s := Nat.ne_of_gt L10_s
           have M10_s := Nat.ne_of_lt L10_s
           have V10_n : M.Var w10 (w2.heap.size) #[.int .i64 nx, .int .i64 ny] := M.Var.mono (b := w2.heap.size) (cs := #[.int .i64 nx, .int .i64 ny]) (by (repeat (first | (with_reducible assumption) | (with_reducible apply M.var_setV) | (with_reducible apply M.var_setI) | (with_reducible apply M.var_setB) | (with_reducible apply M.var_setHt) | (with_reducible apply M.var_setBd) | (with_reducible apply M.var_set2) | (with_reducible apply M.var_set3) | (with_reducible apply M.var_set4) | (with_reducible apply M.var_set45) | (with_reducible apply M.var_set67) | (with_reducible apply M.var_setF) | (with_reducible refine M.var_alloc' _ _ _ ?_; first | rfl | (focus (simp [go_sem]; done))) | (with_reducible refine M.Var.alloc ?_ _) | (with_reducible refine M.Var.drewN ?_ _) | (with_reducible refine M.Var.drew ?_) | (with_reducible refine M.Var.far ?_ _ _ ?hFar; case hFar => (first | omega | ((try simp [go_sem]) <;> omega))) | fail))) hb
           have q10_n_0 : w10.cell? ⟨w2.heap.size, 0, none⟩ = some (.int .i64 nx) := V10_n.c 0 _ rfl
           have q10_n_1 : w10.cell? ⟨w2.heap.size, 1, none⟩ = some (.int .i64 ny) := V10_n.c 1 _ rfl
           have f10_n := V10_n.2.2
           have L10_n := V10_n.lt
           have N10_n := Nat.ne_of_gt L10_n
           have M10_n := Nat.ne_of_lt L10_n
           clear V4_a f4_a L4_a N4_a M4_a q4_a_0 q4_a_1 q4_a_2 q4_a_3 q4_a_4 q4_a_5 q4_a_6 q4_a_7 V4_b f4_b L4_b N4_b M4_b q4_b_0 q4_b_1 q4_b_2 q4_b_3 q4_b_4 q4_b_5 q4_b_6 q4_b_7 V4_r f4_r L4_r N4_r M4_r q4_r_0 q4_r_1 q4_r_2 q4_r_3 q4_r_4 q4_r_5 q4_r_6 q4_r_7 V4_s f4_s L4_s N4_s M4_s q4_s_0 q4_s_1 q4_s_2 q4_s_3 q4_s_4 q4_s_5 q4_s_6 q4_s_7 V4_n f4_n L4_n N4_n M4_n q4_n_0 q4_n_1
           have S10 := G10.size
           have HG10 := Lib.hid G10; clear G10 hb
           rcases ho with ⟨n10, hn10, hz10, rfl⟩ | ⟨gx, gy, hg, igx, igy, rfl⟩
           · exact ⟨rfl, .inl ⟨n10, by unfold jointX Bd.pos; simp only [Hhd.out, Hhu.out, if_neg h0, Hhk.out, if_neg h3, Hhv.out, Hhxs.out, Hhxm.out, Hhxt.out, Hhxz.out, Hhxj.out, hn10, andThen_ok, andThen_err], hz10, rfl⟩, HG10.out⟩
           have Hhg := Lib.hid hg; clear hg)
        | (go_at_call 31; refine ((CA.out _ _ igx igy) _).mono ?_; rintro en w11 ⟨ho, hb⟩
           have G11 : Below w.heap.size w w11 := Below.trans (by have G := HG10.out; (repeat (with_reducible refine M.Below.drewN ?_ _)); go_grown) (hb.mono (by go_size))
           have V11_a : M.Var w11 (w.heap.size) #[.int .i64 a.shape, .int .i64 a.sx, .int .i64 a.sy, .int .i64 a.mass, .int .i64 a.px, .int .i64 a.py, .int .i64 a.mx, .int .i64 a.my] := M.Var.mono (b := w.heap.size) (cs := #[.int .i64 a.shape, .int .i64 a.sx, .int .i64 a.sy, .int .i64 a.mass, .int .i64 a.px, .int .i64 a.py, .int .i64 a.mx, .int .i64 a.my]) (by (repeat (first | (with_reducible assumption) | (with_reducible apply M.var_setV) | (with_reducible apply M.var_setI) | (with_reducible apply M.var_setB) | (with_reducible apply M.var_setHt) | (with_reducible apply M.var_setBd) | (with_reducible apply M.var_set2) | (with_reducible apply M.var_set3) | (with_reducible apply M.var_set4) | (with_reducible apply M.var_set45) | (with_reducible apply M.var_set67) | (with_reducible apply M.var_setF) | (with_reducible refine M.var_alloc' _ _ _ ?_; first | rfl | (focus (simp [go_sem]; done))) | (with_reducible refine M.Var.alloc ?_ _) | (with_reducible refine M.Var.drewN ?_ _) | (with_reducible refine M.Var.drew ?_) | (with_reducible refine M.Var.far ?_ _ _ ?hFar; case hFar => (first | omega | ((try simp [go_sem]) <;> omega))) | fail))) hb
           have q11_a_0 : w11.cell? ⟨w.heap.size, 0, none⟩ = some (.int .i64 a.shape) := V11_a.c 0 _ rfl
           have q11_a_1 : w11.cell? ⟨w.heap.size, 1, none⟩ = some (.int .i64 a.sx) := V11_a.c 1 _ rfl
           have q11_a_2 : w11.cell? ⟨w.heap.size, 2, none⟩ = some (.int .i64 a.sy) := V11_a.c 2 _ rfl
           have q11_a_3 : w11.cell? ⟨w.heap.size, 3, none⟩ = some (.int .i64 a.mass) := V11_a.c 3 _ rfl
           have q11_a_4 : w11.cell? ⟨w.heap.size, 4, none⟩ = some (.int .i64 a.px) := V11_a.c 4 _ rfl
           have q11_a_5 : w11.cell? ⟨w.heap.size, 5, none⟩ = some (.int .i64 a.py) := V11_a.c 5 _ rfl
           have q11_a_6 : w11.cell? ⟨w.heap.size, 6, none⟩ = some (.int .i64 a.mx) := V11_a.c 6 _ rfl
           have q11_a_7 : w11.cell? ⟨w.heap.size, 7, none⟩ = some (.int .i64 a.my) := V11_a.c 7 _ rfl
           have f11_a := V11_a.2.2
           have L11_a := V11_a.lt
           have N11_a := Nat.ne_of_gt L11_a
           have M11_a := Nat.ne_of_lt L11_a
           have V11_b : M.Var w11 (w.heap.size + 1) #[.int .i64 b.shape, .int .i64 b.sx, .int .i64 b.sy, .int .i64 b.mass, .int .i64 b.px, .int .i64 b.py, .int .i64 b.mx, .int .i64 b.my] := M.Var.mono (b := w.heap.size + 1) (cs := #[.int .i64 b.shape, .int .i64 b.sx, .int .i64 b.sy, .int .i64 b.mass, .int .i64 b.px, .int .i64 b.py, .int .i64 b.mx, .int .i64 b.my]) (by (repeat (first | (with_reducible assumption) | (with_reducible apply M.var_setV) | (with_reducible apply M.var_setI) | (with_reducible apply M.var_setB) | (with_reducible apply M.var_setHt) | (with_reducible apply M.var_setBd) | (with_reducible apply M.var_set2) | (with_reducible apply M.var_set3) | (with_reducible apply M.var_set4) | (with_reducible apply M.var_set45) | (with_reducible apply M.var_set67) | (with_reducible apply M.var_setF) | (with_reducible refine M.var_alloc' _ _ _ ?_; first | rfl | (focus (simp [go_sem]; done))) | (with_reducible refine M.Var.alloc ?_ _) | (with_reducible refine M.Var.drewN ?_ _) | (with_reducible refine M.Var.drew ?_) | (with_reducible refine M.Var.far ?_ _ _ ?hFar; case hFar => (first | omega | ((try simp [go_sem]) <;> omega))) | fail))) hb
           have q11_b_0 : w11.cell? ⟨w.heap.size + 1, 0, none⟩ = some (.int .i64 b.shape) := V11_b.c 0 _ rfl
           have q11_b_1 : w11.cell? ⟨w.heap.size + 1, 1, none⟩ = some (.int .i64 b.sx) := V11_b.c 1 _ rfl
           have q11_b_2 : w11.cell? ⟨w.heap.size + 1, 2, none⟩ = some (.int .i64 b.sy) := V11_b.c 2 _ rfl
           have q11_b_3 : w11.cell? ⟨w.heap.size + 1, 3, none⟩ = some (.int .i64 b.mass) := V11_b.c 3 _ rfl
           have q11_b_4 : w11.cell? ⟨w.heap.size + 1, 4, none⟩ = some (.int .i64 b.px) := V11_b.c 4 _ rfl
           have q11_b_5 : w11.cell? ⟨w.heap.size + 1, 5, none⟩ = some (.int .i64 b.py) := V11_b.c 5 _ rfl
           have q11_b_6 : w11.cell? ⟨w.heap.size + 1, 6, none⟩ = some (.int .i64 b.mx) := V11_b.c 6 _ rfl
           have q11_b_7 : w11.cell? ⟨w.heap.size + 1, 7, none⟩ = some (.int .i64 b.my) := V11_b.c 7 _ rfl
           have f11_b := V11_b.2.2
           have L11_b := V11_b.lt
           have N11_b := Nat.ne_of_gt L11_b
           have M11_b := Nat.ne_of_lt L11_b
           have V11_r : M.Var w11 (w.heap.size + 1 + 1) #[.int .i64 0, .int .i64 0, .int .i64 0, .int .i64 0, .int .i64 0, .int .i64 0, .int .i64 0, .int .i64 0] := M.Var.mono (b := w.heap.size + 1 + 1) (cs := #[.int .i64 0, .int .i64 0, .int .i64 0, .int .i64 0, .int .i64 0, .int .i64 0, .int .i64 0, .int .i64 0]) (by (repeat (first | (with_reducible assumption) | (with_reducible apply M.var_setV) | (with_reducible apply M.var_setI) | (with_reducible apply M.var_setB) | (with_reducible apply M.var_setHt) | (with_reducible apply M.var_setBd) | (with_reducible apply M.var_set2) | (with_reducible apply M.var_set3) | (with_reducible apply M.var_set4) | (with_reducible apply M.var_set45) | (with_reducible apply M.var_set67) | (with_reducible apply M.var_setF) | (with_reducible refine M.var_alloc' _ _ _ ?_; first | rfl | (focus (simp [go_sem]; done))) | (with_reducible refine M.Var.alloc ?_ _) | (with_reducible refine M.Var.drewN ?_ _) | (with_reducible refine M.Var.drew ?_) | (with_reducible refine M.Var.far ?_ _ _ ?hFar; case hFar => (first | omega | ((try simp [go_sem]) <;> omega))) | fail))) hb
           have q11_r_0 : w11.cell? ⟨w.heap.size + 1 + 1, 0, none⟩ = some (.int .i64 0) := V11_r.c 0 _ rfl
           have q11_r_1 : w11.cell? ⟨w.heap.size + 1 + 1, 1, none⟩ = some (.int .i64 0) := V11_r.c 1 _ rfl
           have q11_r_2 : w11.cell? ⟨w.heap.size + 1 + 1, 2, none⟩ = some (.int .i64 0) := V11_r.c 2 _ rfl
           have q11_r_3 : w11.cell? ⟨w.heap.size + 1 + 1, 3, none⟩ = some (.int .i64 0) := V11_r.c 3 _ rfl
           have q11_r_4 : w11.cell? ⟨w.heap.size + 1 + 1, 4, none⟩ = some (.int .i64 0) := V11_r.c 4 _ rfl
           have q11_r_5 : w11.cell? ⟨w.heap.size + 1 + 1, 5, none⟩ = some (.int .i64 0) := V11_r.c 5 _ rfl
           have q11_r_6 : w11.cell? ⟨w.heap.size + 1 + 1, 6, none⟩ = some (.int .i64 0) := V11_r.c 6 _ rfl
           have q11_r_7 : w11.cell? ⟨w.heap.size + 1 + 1, 7, none⟩ = some (.int .i64 0) := V11_r.c 7 _ rfl
           have f11_r := V11_r.2.2
           have L11_r := V11_r.lt
           have N11_r := Nat.ne_of_gt L11_r
           have M11_r := Nat.ne_of_lt L11_r
           have V11_s : M.Var w11 (w.heap.size + 1 + 1 + 1) #[.int .i64 0, .int .i64 0, .int .i64 0, .int .i64 0, .int .i64 0, .int .i64 0, .int .i64 0, .int .i64 0] := M.Var.mono (b := w.heap.size + 1 + 1 + 1) (cs := #[.int .i64 0, .int .i64 0, .int .i64 0, .int .i64 0, .int .i64 0, .int .i64 0, .int .i64 0, .int .i64 0]) (by (repeat (first | (with_reducible assumption) | (with_reducible apply M.var_setV) | (with_reducible apply M.var_setI) | (with_reducible apply M.var_setB) | (with_reducible apply M.var_setHt) | (with_reducible apply M.var_setBd) | (with_reducible apply M.var_set2) | (with_reducible apply M.var_set3) | (with_reducible apply M.var_set4) | (with_reducible apply M.var_set45) | (with_reducible apply M.var_set67) | (with_reducible apply M.var_setF) | (with_reducible refine M.var_alloc' _ _ _ ?_; first | rfl | (focus (simp [go_sem]; done))) | (with_reducible refine M.Var.alloc ?_ _) | (with_reducible refine M.Var.drewN ?_ _) | (with_reducible refine M.Var.drew ?_) | (with_reducible refine M.Var.far ?_ _ _ ?hFar; case hFar => (first | omega | ((try simp [go_sem]) <;> omega))) | fail))) hb
           have q11_s_0 : w11.cell? ⟨w.heap.size + 1 + 1 + 1, 0, none⟩ = some (.int .i64 0) := V11_s.c 0 _ rfl
           have q11_s_1 : w11.cell? ⟨w.heap.size + 1 + 1 + 1, 1, none⟩ = some (.int .i64 0) := V11_s.c 1 _ rfl
           have q11_s_2 : w11.cell? ⟨w.heap.size + 1 + 1 + 1, 2, none⟩ = some (.int .i64 0) := V11_s.c 2 _ rfl
           have q11_s_3 : w11.cell? ⟨w.heap.size + 1 + 1 + 1, 3, none⟩ = some (.int .i64 0) := V11_s.c 3 _ rfl
           have q11_s_4 : w11.cell? ⟨w.heap.size + 1 + 1 + 1, 4, none⟩ = some (.int .i64 0) := V11_s.c 4 _ rfl
           have q11_s_5 : w11.cell? ⟨w.heap.size + 1 + 1 + 1, 5, none⟩ = some (.int .i64 0) := V11_s.c 5 _ rfl
           have q11_s_6 : w11.cell? ⟨w.heap.size + 1 + 1 + 1, 6, none⟩ = some (.int .i64 0) := V11_s.c 6 _ rfl
           have q11_s_7 : w11.cell? ⟨w.heap.size + 1 + 1 + 1, 7, none⟩ = some (.int .i64 0) := V11_s.c 7 _ rfl
           have f11_s := V11_s.2.2
           have L11_s := V11_s.lt
           have N11_s := Nat.ne_of_gt L11_s
           have M11_s := Nat.ne_of_lt L11_s
           have V11_n : M.Var w11 (w2.heap.size) #[.int .i64 nx, .int .i64 ny] := M.Var.mono (b := w2.heap.size) (cs := #[.int .i64 nx, .int .i64 ny]) (by (repeat (first | (with_reducible assumption) | (with_reducible apply M.var_setV) | (with_reducible apply M.var_setI) | (with_reducible apply M.var_setB) | (with_reducible apply M.var_setHt) | (with_reducible apply M.var_setBd) | (with_reducible apply M.var_set2) | (with_reducible apply M.var_set3) | (with_reducible apply M.var_set4) | (with_reducible apply M.var_set45) | (with_reducible apply M.var_set67) | (with_reducible apply M.var_setF) | (with_reducible refine M.var_alloc' _ _ _ ?_; first | rfl | (focus (simp [go_sem]; done))) | (with_reducible refine M.Var.alloc ?_ _) | (with_reducible refine M.Var.drewN ?_ _) | (with_reducible refine M.Var.drew ?_) | (with_reducible refine M.Var.far ?_ _ _ ?hFar; case hFar => (first | omega | ((try simp [go_sem]) <;> omega))) | fail))) hb
           have q11_n_0 : w11.cell? ⟨w2.heap.size, 0, none⟩ = some (.int .i64 nx) := V11_n.c 0 _ rfl
           have q11_n_1 : w11.cell? ⟨w2.heap.size, 1, none⟩ = some (.int .i64 ny) := V11_n.c 1 _ rfl
           have f11_n := V11_n.2.2
           have L11_n := V11_n.lt
           have N11_n := Nat.ne_of_gt L11_n
           have M11_n := Nat.ne_of_lt L11_n
           clear V10_a f10_a L10_a N10_a M10_a q10_a_0 q10_a_1 q10_a_2 q10_a_3 q10_a_4 q10_a_5 q10_a_6 q10_a_7 V10_b f10_b L10_b N10_b M10_b q10_b_0 q10_b_1 q10_b_2 q10_b_3 q10_b_4 q10_b_5 q10_b_6 q10_b_7 V10_r f10_r L10_r N10_r M10_r q10_r_0 q10_r_1 q10_r_2 q10_r_3 q10_r_4 q10_r_5 q10_r_6 q10_r_7 V10_s f10_s L10_s N10_s M10_s q10_s_0 q10_s_1 q10_s_2 q10_s_3 q10_s_4 q10_s_5 q10_s_6 q10_s_7 V10_n f10_n L10_n N10_n M10_n q10_n_0 q10_n_1
           have S11 := G11.size
           have HG11 := Lib.hid G11; clear G11 hb
           rcases ho with ⟨n11, hn11, hz11, rfl⟩ | ⟨u1, u2, hr, iu1, iu2, rfl⟩
           · exact ⟨rfl, .inl ⟨n11, by unfold jointX Bd.pos; simp only [Hhd.out, Hhu.out, if_neg h0, Hhk.out, if_neg h3, Hhv.out, Hhxs.out, Hhxm.out, Hhxt.out, Hhxz.out, Hhxj.out, Hhg.out, hn11, andThen_ok, andThen_err], hz11, rfl⟩, HG11.out⟩
           have Hhr := Lib.hid hr; clear hr)
        )
      all_goals go_wp2_with (with_reducible refine M.stopPost ?_)
      all_goals (try refine M.Stop.mk ?_)
      all_goals refine bodyPost_ret (v := .tuple #[.agg #[.int .i64 u1.shape, .int .i64 u1.sx, .int .i64 u1.sy, .int .i64 u1.mass, .int .i64 u1.px, .int .i64 u1.py, .int .i64 u1.mx, .int .i64 u1.my], .agg #[.int .i64 u2.shape, .int .i64 u2.sx, .int .i64 u2.sy, .int .i64 u2.mass, .int .i64 u2.px, .int .i64 u2.py, .int .i64 u2.mx, .int .i64 u2.my]]) (by first | (simp [results, Try.results32, go_sem, q11_r_0, q11_r_1, q11_r_2, q11_r_3, q11_r_4, q11_r_5, q11_r_6, q11_r_7, f11_r, L11_r, N11_r, M11_r, q11_s_0, q11_s_1, q11_s_2, q11_s_3, q11_s_4, q11_s_5, q11_s_6, q11_s_7, f11_s, L11_s, N11_s, M11_s]; done) | (simp [results, Try.results32, go_sem, *]; done)) rfl ⟨.inr ⟨u1, u2, by unfold jointX Bd.pos; simp only [Hhd.out, Hhu.out, if_neg h0, Hhk.out, if_neg h3, Hhv.out, Hhxs.out, Hhxm.out, Hhxt.out, Hhxz.out, Hhxj.out, Hhg.out, Hhr.out, andThen_ok, andThen_err], iu1, iu2, rfl⟩, by have G := HG11.out; (repeat (with_reducible refine M.Below.drewN ?_ _)); go_grown⟩
end Go.Proofs.Ytcaibieaobhheaa
