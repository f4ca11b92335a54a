/- What the functions of package push compute: Apply, both, speed. -/
import Derived.Test.YtcaibieaobhheaaShape
import Derived.Test.YtcaibieaobhheaaVar3
import Derived.Deep.RegionHeld2
import Derived.Deep.DrawnRows
import Derived.Deep.Cut
namespace Go.Proofs.Ytcaibieaobhheaa
open Go.RowKit M
set_option maxRecDepth 100000
set_option maxHeartbeats 4000000
set_option linter.unusedVariables false
set_option linter.unusedSimpArgs false
attribute [local go_sem ↓] Go.wp_at_zero Go.wp_at_succ
theorem apply_x (a b : Bd) (jx jy : Int) (ha : a.ok) (hb : b.ok) (h1 : I64 jx) (h2 : I64 jy) (w : World) :
    Calls Try.prog 31 #[.agg #[.int .i64 a.shape, .int .i64 a.sx, .int .i64 a.sy, .int .i64 a.mass, .int .i64 a.px, .int .i64 a.py, .int .i64 a.mx, .int .i64 a.my], .agg #[.int .i64 b.shape, .int .i64 b.sx, .int .i64 b.sy, .int .i64 b.mass, .int .i64 b.px, .int .i64 b.py, .int .i64 b.mx, .int .i64 b.my], .agg #[.int .i64 jx, .int .i64 jy]] w fun en w' => OutBB (applyX a b (jx, jy)) en ∧ Bw w w' := by
  have C1 := Lib.hid (vecSub_x a.mx a.my jx jy ha.mx ha.my h1 h2)
  have C2 := Lib.hid (vecAdd_x b.mx b.my jx jy hb.mx hb.my h1 h2)
  have HA := Lib.hid ha; have HB := Lib.hid hb
  go_enter Try.func31, Try.ntmps31
  go_wp2_with (with_reducible refine M.stopPost ?_)
  · have h0 : ¬ a.mass = 0 := bne_iff_ne.1 (by assumption)
    (with_reducible refine (C1.out _).mono ?_); rintro en w1 ⟨ho, hb⟩
    have G1 : Below w.heap.size w w1 := Below.trans (by (repeat (with_reducible refine M.Below.drewN ?_ _)); go_grown) (hb.mono (by go_size))
    have V1_a : M.Var w1 (w.heap.size) #[.int .i64 a.shape, .int .i64 a.sx, .int .i64 a.sy, .int .i64 a.mass, .int .i64 a.px, .int .i64 a.py, .int .i64 a.mx, .int .i64 a.my] := M.Var.mono (b := w.heap.size) (cs := #[.int .i64 a.shape, .int .i64 a.sx, .int .i64 a.sy, .int .i64 a.mass, .int .i64 a.px, .int .i64 a.py, .int .i64 a.mx, .int .i64 a.my]) (by (repeat (first | (with_reducible assumption) | (with_reducible apply M.var_setV) | (with_reducible apply M.var_setI) | (with_reducible apply M.var_setB) | (with_reducible apply M.var_setHt) | (with_reducible apply M.var_setBd) | (with_reducible apply M.var_set2) | (with_reducible apply M.var_set3) | (with_reducible apply M.var_set4) | (with_reducible apply M.var_set45) | (with_reducible apply M.var_set67) | (with_reducible apply M.var_setF) | (with_reducible refine M.var_alloc' _ _ _ ?_; first | rfl | (focus (simp [go_sem]; done))) | (with_reducible refine M.Var.alloc ?_ _) | (with_reducible refine M.Var.drewN ?_ _) | (with_reducible refine M.Var.drew ?_) | (with_reducible refine M.Var.far ?_ _ _ ?hFar; case hFar => (first | omega | ((try simp [go_sem]) <;> omega))) | fail))) hb
    have q1_a_0 : w1.cell? ⟨w.heap.size, 0, none⟩ = some (.int .i64 a.shape) := V1_a.c 0 _ rfl
    have q1_a_1 : w1.cell? ⟨w.heap.size, 1, none⟩ = some (.int .i64 a.sx) := V1_a.c 1 _ rfl
    have q1_a_2 : w1.cell? ⟨w.heap.size, 2, none⟩ = some (.int .i64 a.sy) := V1_a.c 2 _ rfl
    have q1_a_3 : w1.cell? ⟨w.heap.size, 3, none⟩ = some (.int .i64 a.mass) := V1_a.c 3 _ rfl
    have q1_a_4 : w1.cell? ⟨w.heap.size, 4, none⟩ = some (.int .i64 a.px) := V1_a.c 4 _ rfl
    have q1_a_5 : w1.cell? ⟨w.heap.size, 5, none⟩ = some (.int .i64 a.py) := V1_a.c 5 _ rfl
    have q1_a_6 : w1.cell? ⟨w.heap.size, 6, none⟩ = some (.int .i64 a.mx) := V1_a.c 6 _ rfl
    have q1_a_7 : w1.cell? ⟨w.heap.size, 7, none⟩ = some (.int .i64 a.my) := V1_a.c 7 _ rfl
    have f1_a := V1_a.2.2
    have L1_a := V1_a.lt
    have N1_a := Nat.ne_of_gt L1_a
    have M1_a := Nat.ne_of_lt L1_a
    have V1_b : M.Var w1 (w.heap.size + 1) #[.int .i64 b.shape, .int .i64 b.sx, .int .i64 b.sy, .int .i64 b.mass, .int .i64 b.px, .int .i64 b.py, .int .i64 b.mx, .int .i64 b.my] := M.Var.mono (b := w.heap.size + 1) (cs := #[.int .i64 b.shape, .int .i64 b.sx, .int .i64 b.sy, .int .i64 b.mass, .int .i64 b.px, .int .i64 b.py, .int .i64 b.mx, .int .i64 b.my]) (by (repeat (first | (with_reducible assumption) | (with_reducible apply M.var_setV) | (with_reducible apply M.var_setI) | (with_reducible apply M.var_setB) | (with_reducible apply M.var_setHt) | (with_reducible apply M.var_setBd) | (with_reducible apply M.var_set2) | (with_reducible apply M.var_set3) | (with_reducible apply M.var_set4) | (with_reducible apply M.var_set45) | (with_reducible apply M.var_set67) | (with_reducible apply M.var_setF) | (with_reducible refine M.var_alloc' _ _ _ ?_; first | rfl | (focus (simp [go_sem]; done))) | (with_reducible refine M.Var.alloc ?_ _) | (with_reducible refine M.Var.drewN ?_ _) | (with_reducible refine M.Var.drew ?_) | (with_reducible refine M.Var.far ?_ _ _ ?hFar; case hFar => (first | omega | ((try simp [go_sem]) <;> omega))) | fail))) hb
    have q1_b_0 : w1.cell? ⟨w.heap.size + 1, 0, none⟩ = some (.int .i64 b.shape) := V1_b.c 0 _ rfl
    have q1_b_1 : w1.cell? ⟨w.heap.size + 1, 1, none⟩ = some (.int .i64 b.sx) := V1_b.c 1 _ rfl
    have q1_b_2 : w1.cell? ⟨w.heap.size + 1, 2, none⟩ = some (.int .i64 b.sy) := V1_b.c 2 _ rfl
    have q1_b_3 : w1.cell? ⟨w.heap.size + 1, 3, none⟩ = some (.int .i64 b.mass) := V1_b.c 3 _ rfl
    have q1_b_4 : w1.cell? ⟨w.heap.size + 1, 4, none⟩ = some (.int .i64 b.px) := V1_b.c 4 _ rfl
    have q1_b_5 : w1.cell? ⟨w.heap.size + 1, 5, none⟩ = some (.int .i64 b.py) := V1_b.c 5 _ rfl
    have q1_b_6 : w1.cell? ⟨w.heap.size + 1, 6, none⟩ = some (.int .i64 b.mx) := V1_b.c 6 _ rfl
    have q1_b_7 : w1.cell? ⟨w.heap.size + 1, 7, none⟩ = some (.int .i64 b.my) := V1_b.c 7 _ rfl
    have f1_b := V1_b.2.2
    have L1_b := V1_b.lt
    have N1_b := Nat.ne_of_gt L1_b
    have M1_b := Nat.ne_of_lt L1_b
    have V1_j : M.Var w1 (w.heap.size + 1 + 1) #[.int .i64 jx, .int .i64 jy] := M.Var.mono (b := w.heap.size + 1 + 1) (cs := #[.int .i64 jx, .int .i64 jy]) (by (repeat (first | (with_reducible assumption) | (with_reducible apply M.var_setV) | (with_reducible apply M.var_setI) | (with_reducible apply M.var_setB) | (with_reducible apply M.var_setHt) | (with_reducible apply M.var_setBd) | (with_reducible apply M.var_set2) | (with_reducible apply M.var_set3) | (with_reducible apply M.var_set4) | (with_reducible apply M.var_set45) | (with_reducible apply M.var_set67) | (with_reducible apply M.var_setF) | (with_reducible refine M.var_alloc' _ _ _ ?_; first | rfl | (focus (simp [go_sem]; done))) | (with_reducible refine M.Var.alloc ?_ _) | (with_reducible refine M.Var.drewN ?_ _) | (with_reducible refine M.Var.drew ?_) | (with_reducible refine M.Var.far ?_ _ _ ?hFar; case hFar => (first | omega | ((try simp [go_sem]) <;> omega))) | fail))) hb
    have q1_j_0 : w1.cell? ⟨w.heap.size + 1 + 1, 0, none⟩ = some (.int .i64 jx) := V1_j.c 0 _ rfl
    have q1_j_1 : w1.cell? ⟨w.heap.size + 1 + 1, 1, none⟩ = some (.int .i64 jy) := V1_j.c 1 _ rfl
    have f1_j := V1_j.2.2
    have L1_j := V1_j.lt
    have N1_j := Nat.ne_of_gt L1_j
    have M1_j := Nat.ne_of_lt L1_j
    have V1_r : M.Var w1 (w.heap.size + 1 + 1 + 1) #[.int .i64 0, .int .i64 0, .int .i64 0, .int .i64 0, .int .i64 0, .int .i64 0, .int .i64 0, .int .i64 0] := M.Var.mono (b := w.heap.size + 1 + 1 + 1) (cs := #[.int .i64 0, .int .i64 0, .int .i64 0, .int .i64 0, .int .i64 0, .int .i64 0, .int .i64 0, .int .i64 0]) (by (repeat (first | (with_reducible assumption) | (with_reducible apply M.var_setV) | (with_reducible apply M.var_setI) | (with_reducible apply M.var_setB) | (with_reducible apply M.var_setHt) | (with_reducible apply M.var_setBd) | (with_reducible apply M.var_set2) | (with_reducible apply M.var_set3) | (with_reducible apply M.var_set4) | (with_reducible apply M.var_set45) | (with_reducible apply M.var_set67) | (with_reducible apply M.var_setF) | (with_reducible refine M.var_alloc' _ _ _ ?_; first | rfl | (focus (simp [go_sem]; done))) | (with_reducible refine M.Var.alloc ?_ _) | (with_reducible refine M.Var.drewN ?_ _) | (with_reducible refine M.Var.drew ?_) | (with_reducible refine M.Var.far ?_ _ _ ?hFar; case hFar => (first | omega | ((try simp [go_sem]) <;> omega))) | fail))) hb
    have q1_r_0 : w1.cell? ⟨w.heap.size + 1 + 1 + 1, 0, none⟩ = some (.int .i64 0) := V1_r.c 0 _ rfl
    have q1_r_1 : w1.cell? ⟨w.heap.size + 1 + 1 + 1, 1, none⟩ = some (.int .i64 0) := V1_r.c 1 _ rfl
    have q1_r_2 : w1.cell? ⟨w.heap.size + 1 + 1 + 1, 2, none⟩ = some (.int .i64 0) := V1_r.c 2 _ rfl
    have q1_r_3 : w1.cell? ⟨w.heap.size + 1 + 1 + 1, 3, none⟩ = some (.int .i64 0) := V1_r.c 3 _ rfl
    have q1_r_4 : w1.cell? ⟨w.heap.size + 1 + 1 + 1, 4, none⟩ = some (.int .i64 0) := V1_r.c 4 _ rfl
    have q1_r_5 : w1.cell? ⟨w.heap.size + 1 + 1 + 1, 5, none⟩ = some (.int .i64 0) := V1_r.c 5 _ rfl
    have q1_r_6 : w1.cell? ⟨w.heap.size + 1 + 1 + 1, 6, none⟩ = some (.int .i64 0) := V1_r.c 6 _ rfl
    have q1_r_7 : w1.cell? ⟨w.heap.size + 1 + 1 + 1, 7, none⟩ = some (.int .i64 0) := V1_r.c 7 _ rfl
    have f1_r := V1_r.2.2
    have L1_r := V1_r.lt
    have N1_r := Nat.ne_of_gt L1_r
    have M1_r := Nat.ne_of_lt L1_r
    have V1_s : M.Var w1 (w.heap.size + 1 + 1 + 1 + 1) #[.int .i64 0, .int .i64 0, .int .i64 0, .int .i64 0, .int .i64 0, .int .i64 0, .int .i64 0, .int .i64 0] := M.Var.mono (b := w.heap.size + 1 + 1 + 1 + 1) (cs := #[.int .i64 0, .int .i64 0, .int .i64 0, .int .i64 0, .int .i64 0, .int .i64 0, .int .i64 0, .int .i64 0]) (by (repeat (first | (with_reducible assumption) | (with_reducible apply M.var_setV) | (with_reducible apply M.var_setI) | (with_reducible apply M.var_setB) | (with_reducible apply M.var_setHt) | (with_reducible apply M.var_setBd) | (with_reducible apply M.var_set2) | (with_reducible apply M.var_set3) | (with_reducible apply M.var_set4) | (with_reducible apply M.var_set45) | (with_reducible apply M.var_set67) | (with_reducible apply M.var_setF) | (with_reducible refine M.var_alloc' _ _ _ ?_; first | rfl | (focus (simp [go_sem]; done))) | (with_reducible refine M.Var.alloc ?_ _) | (with_reducible refine M.Var.drewN ?_ _) | (with_reducible refine M.Var.drew ?_) | (with_reducible refine M.Var.far ?_ _ _ ?hFar; case hFar => (first | omega | ((try simp [go_sem]) <;> omega))) | fail))) hb
    have q1_s_0 : w1.cell? ⟨w.heap.size + 1 + 1 + 1 + 1, 0, none⟩ = some (.int .i64 0) := V1_s.c 0 _ rfl
    have q1_s_1 : w1.cell? ⟨w.heap.size + 1 + 1 + 1 + 1, 1, none⟩ = some (.int .i64 0) := V1_s.c 1 _ rfl
    have q1_s_2 : w1.cell? ⟨w.heap.size + 1 + 1 + 1 + 1, 2, none⟩ = some (.int .i64 0) := V1_s.c 2 _ rfl
    have q1_s_3 : w1.cell? ⟨w.heap.size + 1 + 1 + 1 + 1, 3, none⟩ = some (.int .i64 0) := V1_s.c 3 _ rfl
    have q1_s_4 : w1.cell? ⟨w.heap.size + 1 + 1 + 1 + 1, 4, none⟩ = some (.int .i64 0) := V1_s.c 4 _ rfl
    have q1_s_5 : w1.cell? ⟨w.heap.size + 1 + 1 + 1 + 1, 5, none⟩ = some (.int .i64 0) := V1_s.c 5 _ rfl
    have q1_s_6 : w1.cell? ⟨w.heap.size + 1 + 1 + 1 + 1, 6, none⟩ = some (.int .i64 0) := V1_s.c 6 _ rfl
    have q1_s_7 : w1.cell? ⟨w.heap.size + 1 + 1 + 1 + 1, 7, none⟩ = some (.int .i64 0) := V1_s.c 7 _ rfl
    have f1_s := V1_s.2.2
    have L1_s := V1_s.lt
    have N1_s := Nat.ne_of_gt L1_s
    have M1_s := Nat.ne_of_lt L1_s
    have S1 := G1.size
    have HG1 := Lib.hid G1; clear G1 hb
    rcases ho with ⟨n1, hn1, hz1, rfl⟩ | ⟨x, y, hx, ix, iy, rfl⟩
    · exact ⟨rfl, .inl ⟨n1, by unfold applyX Bd.mom; simp only [if_neg h0, hn1, andThen_ok, andThen_err], hz1, rfl⟩, HG1.out⟩
    have Hhx := Lib.hid hx; clear hx
    go_wp2_with (with_reducible refine M.stopPost ?_)
    · have h3 : ¬ b.mass = 0 := bne_iff_ne.1 (by assumption)
      (with_reducible refine (C2.out _).mono ?_); rintro en w2 ⟨ho, hb⟩
      have G2 : Below w.heap.size w w2 := Below.trans (by have G := HG1.out; (repeat (with_reducible refine M.Below.drewN ?_ _)); go_grown) (hb.mono (by go_size))
      have V2_a : M.Var w2 (w.heap.size) #[.int .i64 a.shape, .int .i64 a.sx, .int .i64 a.sy, .int .i64 a.mass, .int .i64 a.px, .int .i64 a.py, .int .i64 x, .int .i64 y] := M.Var.mono (b := w.heap.size) (cs := #[.int .i64 a.shape, .int .i64 a.sx, .int .i64 a.sy, .int .i64 a.mass, .int .i64 a.px, .int .i64 a.py, .int .i64 x, .int .i64 y]) (by (repeat (first | (with_reducible assumption) | (with_reducible apply M.var_setV) | (with_reducible apply M.var_setI) | (with_reducible apply M.var_setB) | (with_reducible apply M.var_setHt) | (with_reducible apply M.var_setBd) | (with_reducible apply M.var_set2) | (with_reducible apply M.var_set3) | (with_reducible apply M.var_set4) | (with_reducible apply M.var_set45) | (with_reducible apply M.var_set67) | (with_reducible apply M.var_setF) | (with_reducible refine M.var_alloc' _ _ _ ?_; first | rfl | (focus (simp [go_sem]; done))) | (with_reducible refine M.Var.alloc ?_ _) | (with_reducible refine M.Var.drewN ?_ _) | (with_reducible refine M.Var.drew ?_) | (with_reducible refine M.Var.far ?_ _ _ ?hFar; case hFar => (first | omega | ((try simp [go_sem]) <;> omega))) | fail))) hb
      have q2_a_0 : w2.cell? ⟨w.heap.size, 0, none⟩ = some (.int .i64 a.shape) := V2_a.c 0 _ rfl
      have q2_a_1 : w2.cell? ⟨w.heap.size, 1, none⟩ = some (.int .i64 a.sx) := V2_a.c 1 _ rfl
      have q2_a_2 : w2.cell? ⟨w.heap.size, 2, none⟩ = some (.int .i64 a.sy) := V2_a.c 2 _ rfl
      have q2_a_3 : w2.cell? ⟨w.heap.size, 3, none⟩ = some (.int .i64 a.mass) := V2_a.c 3 _ rfl
      have q2_a_4 : w2.cell? ⟨w.heap.size, 4, none⟩ = some (.int .i64 a.px) := V2_a.c 4 _ rfl
      have q2_a_5 : w2.cell? ⟨w.heap.size, 5, none⟩ = some (.int .i64 a.py) := V2_a.c 5 _ rfl
      have q2_a_6 : w2.cell? ⟨w.heap.size, 6, none⟩ = some (.int .i64 x) := V2_a.c 6 _ rfl
      have q2_a_7 : w2.cell? ⟨w.heap.size, 7, none⟩ = some (.int .i64 y) := V2_a.c 7 _ rfl
      have f2_a := V2_a.2.2
      have L2_a := V2_a.lt
      have N2_a := Nat.ne_of_gt L2_a
      have M2_a := Nat.ne_of_lt L2_a
      have V2_b : M.Var w2 (w.heap.size + 1) #[.int .i64 b.shape, .int .i64 b.sx, .int .i64 b.sy, .int .i64 b.mass, .int .i64 b.px, .int .i64 b.py, .int .i64 b.mx, .int .i64 b.my] := M.Var.mono (b := w.heap.size + 1) (cs := #[.int .i64 b.shape, .int .i64 b.sx, .int .i64 b.sy, .int .i64 b.mass, .int .i64 b.px, .int .i64 b.py, .int .i64 b.mx, .int .i64 b.my]) (by (repeat (first | (with_reducible assumption) | (with_reducible apply M.var_setV) | (with_reducible apply M.var_setI) | (with_reducible apply M.var_setB) | (with_reducible apply M.var_setHt) | (with_reducible apply M.var_setBd) | (with_reducible apply M.var_set2) | (with_reducible apply M.var_set3) | (with_reducible apply M.var_set4) | (with_reducible apply M.var_set45) | (with_reducible apply M.var_set67) | (with_reducible apply M.var_setF) | (with_reducible refine M.var_alloc' _ _ _ ?_; first | rfl | (focus (simp [go_sem]; done))) | (with_reducible refine M.Var.alloc ?_ _) | (with_reducible refine M.Var.drewN ?_ _) | (with_reducible refine M.Var.drew ?_) | (with_reducible refine M.Var.far ?_ _ _ ?hFar; case hFar => (first | omega | ((try simp [go_sem]) <;> omega))) | fail))) hb
      have q2_b_0 : w2.cell? ⟨w.heap.size + 1, 0, none⟩ = some (.int .i64 b.shape) := V2_b.c 0 _ rfl
      have q2_b_1 : w2.cell? ⟨w.heap.size + 1, 1, none⟩ = some (.int .i64 b.sx) := V2_b.c 1 _ rfl
      have q2_b_2 : w2.cell? ⟨w.heap.size + 1, 2, none⟩ = some (.int .i64 b.sy) := V2_b.c 2 _ rfl
      have q2_b_3 : w2.cell? ⟨w.heap.size + 1, 3, none⟩ = some (.int .i64 b.mass) := V2_b.c 3 _ rfl
      have q2_b_4 : w2.cell? ⟨w.heap.size + 1, 4, none⟩ = some (.int .i64 b.px) := V2_b.c 4 _ rfl
      have q2_b_5 : w2.cell? ⟨w.heap.size + 1, 5, none⟩ = some (.int .i64 b.py) := V2_b.c 5 _ rfl
      have q2_b_6 : w2.cell? ⟨w.heap.size + 1, 6, none⟩ = some (.int .i64 b.mx) := V2_b.c 6 _ rfl
      have q2_b_7 : w2.cell? ⟨w.heap.size + 1, 7, none⟩ = some (.int .i64 b.my) := V2_b.c 7 _ rfl
      have f2_b := V2_b.2.2
      have L2_b := V2_b.lt
      have N2_b := Nat.ne_of_gt L2_b
      have M2_b := Nat.ne_of_lt L2_b
      have V2_j : M.Var w2 (w.heap.size + 1 + 1) #[.int .i64 jx, .int .i64 jy] := M.Var.mono (b := w.heap.size + 1 + 1) (cs := #[.int .i64 jx, .int .i64 jy]) (by (repeat (first | (with_reducible assumption) | (with_reducible apply M.var_setV) | (with_reducible apply M.var_setI) | (with_reducible apply M.var_setB) | (with_reducible apply M.var_setHt) | (with_reducible apply M.var_setBd) | (with_reducible apply M.var_set2) | (with_reducible apply M.var_set3) | (with_reducible apply M.var_set4) | (with_reducible apply M.var_set45) | (with_reducible apply M.var_set67) | (with_reducible apply M.var_setF) | (with_reducible refine M.var_alloc' _ _ _ ?_; first | rfl | (focus (simp [go_sem]; done))) | (with_reducible refine M.Var.alloc ?_ _) | (with_reducible refine M.Var.drewN ?_ _) | (with_reducible refine M.Var.drew ?_) | (with_reducible refine M.Var.far ?_ _ _ ?hFar; case hFar => (first | omega | ((try simp [go_sem]) <;> omega))) | fail))) hb
      have q2_j_0 : w2.cell? ⟨w.heap.size + 1 + 1, 0, none⟩ = some (.int .i64 jx) := V2_j.c 0 _ rfl
      have q2_j_1 : w2.cell? ⟨w.heap.size + 1 + 1, 1, none⟩ = some (.int .i64 jy) := V2_j.c 1 _ rfl
      have f2_j := V2_j.2.2
      have L2_j := V2_j.lt
      have N2_j := Nat.ne_of_gt L2_j
      have M2_j := Nat.ne_of_lt L2_j
      have V2_r : M.Var w2 (w.heap.size + 1 + 1 + 1) #[.int .i64 0, .int .i64 0, .int .i64 0, .int .i64 0, .int .i64 0, .int .i64 0, .int .i64 0, .int .i64 0] := M.Var.mono (b := w.heap.size + 1 + 1 + 1) (cs := #[.int .i64 0, .int .i64 0, .int .i64 0, .int .i64 0, .int .i64 0, .int .i64 0, .int .i64 0, .int .i64 0]) (by (repeat (first | (with_reducible assumption) | (with_reducible apply M.var_setV) | (with_reducible apply M.var_setI) | (with_reducible apply M.var_setB) | (with_reducible apply M.var_setHt) | (with_reducible apply M.var_setBd) | (with_reducible apply M.var_set2) | (with_reducible apply M.var_set3) | (with_reducible apply M.var_set4) | (with_reducible apply M.var_set45) | (with_reducible apply M.var_set67) | (with_reducible apply M.var_setF) | (with_reducible refine M.var_alloc' _ _ _ ?_; first | rfl | (focus (simp [go_sem]; done))) | (with_reducible refine M.Var.alloc ?_ _) | (with_reducible refine M.Var.drewN ?_ _) | (with_reducible refine M.Var.drew ?_) | (with_reducible refine M.Var.far ?_ _ _ ?hFar; case hFar => (first | omega | ((try simp [go_sem]) <;> omega))) | fail))) hb
      have q2_r_0 : w2.cell? ⟨w.heap.size + 1 + 1 + 1, 0, none⟩ = some (.int .i64 0) := V2_r.c 0 _ rfl
      have q2_r_1 : w2.cell? ⟨w.heap.size + 1 + 1 + 1, 1, none⟩ = some (.int .i64 0) := V2_r.c 1 _ rfl
      have q2_r_2 : w2.cell? ⟨w.heap.size + 1 + 1 + 1, 2, none⟩ = some (.int .i64 0) := V2_r.c 2 _ rfl
      have q2_r_3 : w2.cell? ⟨w.heap.size + 1 + 1 + 1, 3, none⟩ = some (.int .i64 0) := V2_r.c 3 _ rfl
      have q2_r_4 : w2.cell? ⟨w.heap.size + 1 + 1 + 1, 4, none⟩ = some (.int .i64 0) := V2_r.c 4 _ rfl
      have q2_r_5 : w2.cell? ⟨w.heap.size + 1 + 1 + 1, 5, none⟩ = some (.int .i64 0) := V2_r.c 5 _ rfl
      have q2_r_6 : w2.cell? ⟨w.heap.size + 1 + 1 + 1, 6, none⟩ = some (.int .i64 0) := V2_r.c 6 _ rfl
      have q2_r_7 : w2.cell? ⟨w.heap.size + 1 + 1 + 1, 7, none⟩ = some (.int .i64 0) := V2_r.c 7 _ rfl
      have f2_r := V2_r.2.2
      have L2_r := V2_r.lt
      have N2_r := Nat.ne_of_gt L2_r
      have M2_r := Nat.ne_of_lt L2_r
      have V2_s : M.Var w2 (w.heap.size + 1 + 1 + 1 + 1) #[.int .i64 0, .int .i64 0, .int .i64 0, .int .i64 0, .int .i64 0, .int .i64 0, .int .i64 0, .int .i64 0] := M.Var.mono (b := w.heap.size + 1 + 1 + 1 + 1) (cs := #[.int .i64 0, .int .i64 0, .int .i64 0, .int .i64 0, .int .i64 0, .int .i64 0, .int .i64 0, .int .i64 0]) (by (repeat (first | (with_reducible assumption) | (with_reducible apply M.var_setV) | (with_reducible apply M.var_setI) | (with_reducible apply M.var_setB) | (with_reducible apply M.var_setHt) | (with_reducible apply M.var_setBd) | (with_reducible apply M.var_set2) | (with_reducible apply M.var_set3) | (with_reducible apply M.var_set4) | (with_reducible apply M.var_set45) | (with_reducible apply M.var_set67) | (with_reducible apply M.var_setF) | (with_reducible refine M.var_alloc' _ _ _ ?_; first | rfl | (focus (simp [go_sem]; done))) | (with_reducible refine M.Var.alloc ?_ _) | (with_reducible refine M.Var.drewN ?_ _) | (with_reducible refine M.Var.drew ?_) | (with_reducible refine M.Var.far ?_ _ _ ?hFar; case hFar => (first | omega | ((try simp [go_sem]) <;> omega))) | fail))) hb
      have q2_s_0 : w2.cell? ⟨w.heap.size + 1 + 1 + 1 + 1, 0, none⟩ = some (.int .i64 0) := V2_s.c 0 _ rfl
      have q2_s_1 : w2.cell? ⟨w.heap.size + 1 + 1 + 1 + 1, 1, none⟩ = some (.int .i64 0) := V2_s.c 1 _ rfl
      have q2_s_2 : w2.cell? ⟨w.heap.size + 1 + 1 + 1 + 1, 2, none⟩ = some (.int .i64 0) := V2_s.c 2 _ rfl
      have q2_s_3 : w2.cell? ⟨w.heap.size + 1 + 1 + 1 + 1, 3, none⟩ = some (.int .i64 0) := V2_s.c 3 _ rfl
      have q2_s_4 : w2.cell? ⟨w.heap.size + 1 + 1 + 1 + 1, 4, none⟩ = some (.int .i64 0) := V2_s.c 4 _ rfl
      have q2_s_5 : w2.cell? ⟨w.heap.size + 1 + 1 + 1 + 1, 5, none⟩ = some (.int .i64 0) := V2_s.c 5 _ rfl
      have q2_s_6 : w2.cell? ⟨w.heap.size + 1 + 1 + 1 + 1, 6, none⟩ = some (.int .i64 0) := V2_s.c 6 _ rfl
      have q2_s_7 : w2.cell? ⟨w.heap.size + 1 + 1 + 1 + 1, 7, none⟩ = some (.int .i64 0) := V2_s.c 7 _ rfl
      have f2_s := V2_s.2.2
      have L2_s := V2_s.lt
      have N2_s := Nat.ne_of_gt L2_s
      have M2_s := Nat.ne_of_lt L2_s
      clear V1_a f1_a L1_a N1_a M1_a q1_a_0 q1_a_1 q1_a_2 q1_a_3 q1_a_4 q1_a_5 q1_a_6 q1_a_7 V1_b f1_b L1_b N1_b M1_b q1_b_0 q1_b_1 q1_b_2 q1_b_3 q1_b_4 q1_b_5 q1_b_6 q1_b_7 V1_j f1_j L1_j N1_j M1_j q1_j_0 q1_j_1 V1_r f1_r L1_r N1_r M1_r q1_r_0 q1_r_1 q1_r_2 q1_r_3 q1_r_4 q1_r_5 q1_r_6 q1_r_7 V1_s f1_s L1_s N1_s M1_s q1_s_0 q1_s_1 q1_s_2 q1_s_3 q1_s_4 q1_s_5 q1_s_6 q1_s_7
      have S2 := G2.size
      have HG2 := Lib.hid G2; clear G2 hb
      rcases ho with ⟨n2, hn2, hz2, rfl⟩ | ⟨u, v, hu, iu, iv, rfl⟩
      · exact ⟨rfl, .inl ⟨n2, by unfold applyX Bd.mom; simp only [if_neg h0, Hhx.out, if_neg h3, hn2, andThen_ok, andThen_err], hz2, rfl⟩, HG2.out⟩
      have Hhu := Lib.hid hu; clear hu
      go_wp2_with (with_reducible refine M.stopPost ?_)
      go_region_held2 (fun w' => w'.cell? ⟨w.heap.size, 0, none⟩ = some (.int .i64 a.shape) ∧ w'.cell? ⟨w.heap.size, 1, none⟩ = some (.int .i64 a.sx) ∧ w'.cell? ⟨w.heap.size, 2, none⟩ = some (.int .i64 a.sy) ∧ w'.cell? ⟨w.heap.size, 3, none⟩ = some (.int .i64 a.mass) ∧ w'.cell? ⟨w.heap.size, 4, none⟩ = some (.int .i64 a.px) ∧ w'.cell? ⟨w.heap.size, 5, none⟩ = some (.int .i64 a.py) ∧ w'.cell? ⟨w.heap.size, 6, none⟩ = some (.int .i64 x) ∧ w'.cell? ⟨w.heap.size, 7, none⟩ = some (.int .i64 y) ∧ w'.cell? ⟨w.heap.size + 1, 0, none⟩ = some (.int .i64 b.shape) ∧ w'.cell? ⟨w.heap.size + 1, 1, none⟩ = some (.int .i64 b.sx) ∧ w'.cell? ⟨w.heap.size + 1, 2, none⟩ = some (.int .i64 b.sy) ∧ w'.cell? ⟨w.heap.size + 1, 3, none⟩ = some (.int .i64 b.mass) ∧ w'.cell? ⟨w.heap.size + 1, 4, none⟩ = some (.int .i64 b.px) ∧ w'.cell? ⟨w.heap.size + 1, 5, none⟩ = some (.int .i64 b.py) ∧ w'.cell? ⟨w.heap.size + 1, 6, none⟩ = some (.int .i64 u) ∧ w'.cell? ⟨w.heap.size + 1, 7, none⟩ = some (.int .i64 v)) (first | (go_keep; done) | (simp [*, go_sem, World.cell?_alloc_some, World.cell?_setCell_far]; done))
        (fail)
      all_goals go_wp2_with (with_reducible refine M.stopPost ?_)
      all_goals (try refine M.Stop.mk ?_)
      all_goals refine bodyPost_ret (v := .tuple #[.agg #[.int .i64 a.shape, .int .i64 a.sx, .int .i64 a.sy, .int .i64 a.mass, .int .i64 a.px, .int .i64 a.py, .int .i64 x, .int .i64 y], .agg #[.int .i64 b.shape, .int .i64 b.sx, .int .i64 b.sy, .int .i64 b.mass, .int .i64 b.px, .int .i64 b.py, .int .i64 u, .int .i64 v]]) (by first | (simp [results, Try.results31, go_sem, q2_r_0, q2_r_1, q2_r_2, q2_r_3, q2_r_4, q2_r_5, q2_r_6, q2_r_7, f2_r, L2_r, N2_r, M2_r, q2_s_0, q2_s_1, q2_s_2, q2_s_3, q2_s_4, q2_s_5, q2_s_6, q2_s_7, f2_s, L2_s, N2_s, M2_s]; done) | (simp [results, Try.results31, go_sem, *]; done)) rfl ⟨.inr ⟨⟨a.shape, a.sx, a.sy, a.mass, a.px, a.py, x, y⟩, ⟨b.shape, b.sx, b.sy, b.mass, b.px, b.py, u, v⟩, by unfold applyX Bd.mom; simp only [if_neg h0, Hhx.out, if_neg h3, Hhu.out, andThen_ok, andThen_err], ⟨HA.out.shape, HA.out.sx, HA.out.sy, HA.out.mass, HA.out.px, HA.out.py, ix, iy⟩, ⟨HB.out.shape, HB.out.sx, HB.out.sy, HB.out.mass, HB.out.px, HB.out.py, iu, iv⟩, rfl⟩, by have G := HG2.out; (repeat (with_reducible refine M.Below.drewN ?_ _)); go_grown⟩
    · have h3 : b.mass = 0 := bne_eq_false_iff_eq.1 (by assumption)
      go_region_held2 (fun w' => w'.cell? ⟨w.heap.size, 0, none⟩ = some (.int .i64 a.shape) ∧ w'.cell? ⟨w.heap.size, 1, none⟩ = some (.int .i64 a.sx) ∧ w'.cell? ⟨w.heap.size, 2, none⟩ = some (.int .i64 a.sy) ∧ w'.cell? ⟨w.heap.size, 3, none⟩ = some (.int .i64 a.mass) ∧ w'.cell? ⟨w.heap.size, 4, none⟩ = some (.int .i64 a.px) ∧ w'.cell? ⟨w.heap.size, 5, none⟩ = some (.int .i64 a.py) ∧ w'.cell? ⟨w.heap.size, 6, none⟩ = some (.int .i64 x) ∧ w'.cell? ⟨w.heap.size, 7, none⟩ = some (.int .i64 y) ∧ w'.cell? ⟨w.heap.size + 1, 0, none⟩ = some (.int .i64 b.shape) ∧ w'.cell? ⟨w.heap.size + 1, 1, none⟩ = some (.int .i64 b.sx) ∧ w'.cell? ⟨w.heap.size + 1, 2, none⟩ = some (.int .i64 b.sy) ∧ w'.cell? ⟨w.heap.size + 1, 3, none⟩ = some (.int .i64 b.mass) ∧ w'.cell? ⟨w.heap.size + 1, 4, none⟩ = some (.int .i64 b.px) ∧ w'.cell? ⟨w.heap.size + 1, 5, none⟩ = some (.int .i64 b.py) ∧ w'.cell? ⟨w.heap.size + 1, 6, none⟩ = some (.int .i64 b.mx) ∧ w'.cell? ⟨w.heap.size + 1, 7, none⟩ = some (.int .i64 b.my)) (first | (go_keep; done) | (simp [*, go_sem, World.cell?_alloc_some, World.cell?_setCell_far]; done))
        (fail)
      all_goals go_wp2_with (with_reducible refine M.stopPost ?_)
      all_goals (try refine M.Stop.mk ?_)
      all_goals refine bodyPost_ret (v := .tuple #[.agg #[.int .i64 a.shape, .int .i64 a.sx, .int .i64 a.sy, .int .i64 a.mass, .int .i64 a.px, .int .i64 a.py, .int .i64 x, .int .i64 y], .agg #[.int .i64 b.shape, .int .i64 b.sx, .int .i64 b.sy, .int .i64 b.mass, .int .i64 b.px, .int .i64 b.py, .int .i64 b.mx, .int .i64 b.my]]) (by first | (simp [results, Try.results31, go_sem, q1_r_0, q1_r_1, q1_r_2, q1_r_3, q1_r_4, q1_r_5, q1_r_6, q1_r_7, f1_r, L1_r, N1_r, M1_r, q1_s_0, q1_s_1, q1_s_2, q1_s_3, q1_s_4, q1_s_5, q1_s_6, q1_s_7, f1_s, L1_s, N1_s, M1_s]; done) | (simp [results, Try.results31, go_sem, *]; done)) rfl ⟨.inr ⟨⟨a.shape, a.sx, a.sy, a.mass, a.px, a.py, x, y⟩, b, by unfold applyX Bd.mom; simp only [if_neg h0, Hhx.out, if_pos h3, andThen_ok, andThen_err], ⟨HA.out.shape, HA.out.sx, HA.out.sy, HA.out.mass, HA.out.px, HA.out.py, ix, iy⟩, HB.out, rfl⟩, by have G := HG1.out; (repeat (with_reducible refine M.Below.drewN ?_ _)); go_grown⟩
  · have h0 : a.mass = 0 := bne_eq_false_iff_eq.1 (by assumption)
    have h3 : ¬ b.mass = 0 := bne_iff_ne.1 (by assumption)
    (with_reducible refine (C2.out _).mono ?_); rintro en w3 ⟨ho, hb⟩
    have G3 : Below w.heap.size w w3 := Below.trans (by (repeat (with_reducible refine M.Below.drewN ?_ _)); go_grown) (hb.mono (by go_size))
    have V3_a : M.Var w3 (w.heap.size) #[.int .i64 a.shape, .int .i64 a.sx, .int .i64 a.sy, .int .i64 a.mass, .int .i64 a.px, .int .i64 a.py, .int .i64 a.mx, .int .i64 a.my] := M.Var.mono (b := w.heap.size) (cs := #[.int .i64 a.shape, .int .i64 a.sx, .int .i64 a.sy, .int .i64 a.mass, .int .i64 a.px, .int .i64 a.py, .int .i64 a.mx, .int .i64 a.my]) (by (repeat (first | (with_reducible assumption) | (with_reducible apply M.var_setV) | (with_reducible apply M.var_setI) | (with_reducible apply M.var_setB) | (with_reducible apply M.var_setHt) | (with_reducible apply M.var_setBd) | (with_reducible apply M.var_set2) | (with_reducible apply M.var_set3) | (with_reducible apply M.var_set4) | (with_reducible apply M.var_set45) | (with_reducible apply M.var_set67) | (with_reducible apply M.var_setF) | (with_reducible refine M.var_alloc' _ _ _ ?_; first | rfl | (focus (simp [go_sem]; done))) | (with_reducible refine M.Var.alloc ?_ _) | (with_reducible refine M.Var.drewN ?_ _) | (with_reducible refine M.Var.drew ?_) | (with_reducible refine M.Var.far ?_ _ _ ?hFar; case hFar => (first | omega | ((try simp [go_sem]) <;> omega))) | fail))) hb
    have q3_a_0 : w3.cell? ⟨w.heap.size, 0, none⟩ = some (.int .i64 a.shape) := V3_a.c 0 _ rfl
    have q3_a_1 : w3.cell? ⟨w.heap.size, 1, none⟩ = some (.int .i64 a.sx) := V3_a.c 1 _ rfl
    have q3_a_2 : w3.cell? ⟨w.heap.size, 2, none⟩ = some (.int .i64 a.sy) := V3_a.c 2 _ rfl
    have q3_a_3 : w3.cell? ⟨w.heap.size, 3, none⟩ = some (.int .i64 a.mass) := V3_a.c 3 _ rfl
    have q3_a_4 : w3.cell? ⟨w.heap.size, 4, none⟩ = some (.int .i64 a.px) := V3_a.c 4 _ rfl
    have q3_a_5 : w3.cell? ⟨w.heap.size, 5, none⟩ = some (.int .i64 a.py) := V3_a.c 5 _ rfl
    have q3_a_6 : w3.cell? ⟨w.heap.size, 6, none⟩ = some (.int .i64 a.mx) := V3_a.c 6 _ rfl
    have q3_a_7 : w3.cell? ⟨w.heap.size, 7, none⟩ = some (.int .i64 a.my) := V3_a.c 7 _ rfl
    have f3_a := V3_a.2.2
    have L3_a := V3_a.lt
    have N3_a := Nat.ne_of_gt L3_a
    have M3_a := Nat.ne_of_lt L3_a
    have V3_b : M.Var w3 (w.heap.size + 1) #[.int .i64 b.shape, .int .i64 b.sx, .int .i64 b.sy, .int .i64 b.mass, .int .i64 b.px, .int .i64 b.py, .int .i64 b.mx, .int .i64 b.my] := M.Var.mono (b := w.heap.size + 1) (cs := #[.int .i64 b.shape, .int .i64 b.sx, .int .i64 b.sy, .int .i64 b.mass, .int .i64 b.px, .int .i64 b.py, .int .i64 b.mx, .int .i64 b.my]) (by (repeat (first | (with_reducible assumption) | (with_reducible apply M.var_setV) | (with_reducible apply M.var_setI) | (with_reducible apply M.var_setB) | (with_reducible apply M.var_setHt) | (with_reducible apply M.var_setBd) | (with_reducible apply M.var_set2) | (with_reducible apply M.var_set3) | (with_reducible apply M.var_set4) | (with_reducible apply M.var_set45) | (with_reducible apply M.var_set67) | (with_reducible apply M.var_setF) | (with_reducible refine M.var_alloc' _ _ _ ?_; first | rfl | (focus (simp [go_sem]; done))) | (with_reducible refine M.Var.alloc ?_ _) | (with_reducible refine M.Var.drewN ?_ _) | (with_reducible refine M.Var.drew ?_) | (with_reducible refine M.Var.far ?_ _ _ ?hFar; case hFar => (first | omega | ((try simp [go_sem]) <;> omega))) | fail))) hb
    have q3_b_0 : w3.cell? ⟨w.heap.size + 1, 0, none⟩ = some (.int .i64 b.shape) := V3_b.c 0 _ rfl
    have q3_b_1 : w3.cell? ⟨w.heap.size + 1, 1, none⟩ = some (.int .i64 b.sx) := V3_b.c 1 _ rfl
    have q3_b_2 : w3.cell? ⟨w.heap.size + 1, 2, none⟩ = some (.int .i64 b.sy) := V3_b.c 2 _ rfl
    have q3_b_3 : w3.cell? ⟨w.heap.size + 1, 3, none⟩ = some (.int .i64 b.mass) := V3_b.c 3 _ rfl
    have q3_b_4 : w3.cell? ⟨w.heap.size + 1, 4, none⟩ = some (.int .i64 b.px) := V3_b.c 4 _ rfl
    have q3_b_5 : w3.cell? ⟨w.heap.size + 1, 5, none⟩ = some (.int .i64 b.py) := V3_b.c 5 _ rfl
    have q3_b_6 : w3.cell? ⟨w.heap.size + 1, 6, none⟩ = some (.int .i64 b.mx) := V3_b.c 6 _ rfl
    have q3_b_7 : w3.cell? ⟨w.heap.size + 1, 7, none⟩ = some (.int .i64 b.my) := V3_b.c 7 _ rfl
    have f3_b := V3_b.2.2
    have L3_b := V3_b.lt
    have N3_b := Nat.ne_of_gt L3_b
    have M3_b := Nat.ne_of_lt L3_b
    have V3_j : M.Var w3 (w.heap.size + 1 + 1) #[.int .i64 jx, .int .i64 jy] := M.Var.mono (b := w.heap.size + 1 + 1) (cs := #[.int .i64 jx, .int .i64 jy]) (by (repeat (first | (with_reducible assumption) | (with_reducible apply M.var_setV) | (with_reducible apply M.var_setI) | (with_reducible apply M.var_setB) | (with_reducible apply M.var_setHt) | (with_reducible apply M.var_setBd) | (with_reducible apply M.var_set2) | (with_reducible apply M.var_set3) | (with_reducible apply M.var_set4) | (with_reducible apply M.var_set45) | (with_reducible apply M.var_set67) | (with_reducible apply M.var_setF) | (with_reducible refine M.var_alloc' _ _ _ ?_; first | rfl | (focus (simp [go_sem]; done))) | (with_reducible refine M.Var.alloc ?_ _) | (with_reducible refine M.Var.drewN ?_ _) | (with_reducible refine M.Var.drew ?_) | (with_reducible refine M.Var.far ?_ _ _ ?hFar; case hFar => (first | omega | ((try simp [go_sem]) <;> omega))) | fail))) hb
    have q3_j_0 : w3.cell? ⟨w.heap.size + 1 + 1, 0, none⟩ = some (.int .i64 jx) := V3_j.c 0 _ rfl
    have q3_j_1 : w3.cell? ⟨w.heap.size + 1 + 1, 1, none⟩ = some (.int .i64 jy) := V3_j.c 1 _ rfl
    have f3_j := V3_j.2.2
    have L3_j := V3_j.lt
    have N3_j := Nat.ne_of_gt L3_j
    have M3_j := Nat.ne_of_lt L3_j
    have V3_r : M.Var w3 (w.heap.size + 1 + 1 + 1) #[.int .i64 0, .int .i64 0, .int .i64 0, .int .i64 0, .int .i64 0, .int .i64 0, .int .i64 0, .int .i64 0] := M.Var.mono (b := w.heap.size + 1 + 1 + 1) (cs := #[.int .i64 0, .int .i64 0, .int .i64 0, .int .i64 0, .int .i64 0, .int .i64 0, .int .i64 0, .int .i64 0]) (by (repeat (first | (with_reducible assumption) | (with_reducible apply M.var_setV) | (with_reducible apply M.var_setI) | (with_reducible apply M.var_setB) | (with_reducible apply M.var_setHt) | (with_reducible apply M.var_setBd) | (with_reducible apply M.var_set2) | (with_reducible apply M.var_set3) | (with_reducible apply M.var_set4) | (with_reducible apply M.var_set45) | (with_reducible apply M.var_set67) | (with_reducible apply M.var_setF) | (with_reducible refine M.var_alloc' _ _ _ ?_; first | rfl | (focus (simp [go_sem]; done))) | (with_reducible refine M.Var.alloc ?_ _) | (with_reducible refine M.Var.drewN ?_ _) | (with_reducible refine M.Var.drew ?_) | (with_reducible refine M.Var.far ?_ _ _ ?hFar; case hFar => (first | omega | ((try simp [go_sem]) <;> omega))) | fail))) hb
    have q3_r_0 : w3.cell? ⟨w.heap.size + 1 + 1 + 1, 0, none⟩ = some (.int .i64 0) := V3_r.c 0 _ rfl
    have q3_r_1 : w3.cell? ⟨w.heap.size + 1 + 1 + 1, 1, none⟩ = some (.int .i64 0) := V3_r.c 1 _ rfl
    have q3_r_2 : w3.cell? ⟨w.heap.size + 1 + 1 + 1, 2, none⟩ = some (.int .i64 0) := V3_r.c 2 _ rfl
    have q3_r_3 : w3.cell? ⟨w.heap.size + 1 + 1 + 1, 3, none⟩ = some (.int .i64 0) := V3_r.c 3 _ rfl
    have q3_r_4 : w3.cell? ⟨w.heap.size + 1 + 1 + 1, 4, none⟩ = some (.int .i64 0) := V3_r.c 4 _ rfl
    have q3_r_5 : w3.cell? ⟨w.heap.size + 1 + 1 + 1, 5, none⟩ = some (.int .i64 0) := V3_r.c 5 _ rfl
    have q3_r_6 : w3.cell? ⟨w.heap.size + 1 + 1 + 1, 6, none⟩ = some (.int .i64 0) := V3_r.c 6 _ rfl
    have q3_r_7 : w3.cell? ⟨w.heap.size + 1 + 1 + 1, 7, none⟩ = some (.int .i64 0) := V3_r.c 7 _ rfl
    have f3_r := V3_r.2.2
    have L3_r := V3_r.lt
    have N3_r := Nat.ne_of_gt L3_r
    have M3_r := Nat.ne_of_lt L3_r
    have V3_s : M.Var w3 (w.heap.size + 1 + 1 + 1 + 1) #[.int .i64 0, .int .i64 0, .int .i64 0, .int .i64 0, .int .i64 0, .int .i64 0, .int .i64 0, .int .i64 0] := M.Var.mono (b := w.heap.size + 1 + 1 + 1 + 1) (cs := #[.int .i64 0, .int .i64 0, .int .i64 0, .int .i64 0, .int .i64 0, .int .i64 0, .int .i64 0, .int .i64 0]) (by (repeat (first | (with_reducible assumption) | (with_reducible apply M.var_setV) | (with_reducible apply M.var_setI) | (with_reducible apply M.var_setB) | (with_reducible apply M.var_setHt) | (with_reducible apply M.var_setBd) | (with_reducible apply M.var_set2) | (with_reducible apply M.var_set3) | (with_reducible apply M.var_set4) | (with_reducible apply M.var_set45) | (with_reducible apply M.var_set67) | (with_reducible apply M.var_setF) | (with_reducible refine M.var_alloc' _ _ _ ?_; first | rfl | (focus (simp [go_sem]; done))) | (with_reducible refine M.Var.alloc ?_ _) | (with_reducible refine M.Var.drewN ?_ _) | (with_reducible refine M.Var.drew ?_) | (with_reducible refine M.Var.far ?_ _ _ ?hFar; case hFar => (first | omega | ((try simp [go_sem]) <;> omega))) | fail))) hb
    have q3_s_0 : w3.cell? ⟨w.heap.size + 1 + 1 + 1 + 1, 0, none⟩ = some (.int .i64 0) := V3_s.c 0 _ rfl
    have q3_s_1 : w3.cell? ⟨w.heap.size + 1 + 1 + 1 + 1, 1, none⟩ = some (.int .i64 0) := V3_s.c 1 _ rfl
    have q3_s_2 : w3.cell? ⟨w.heap.size + 1 + 1 + 1 + 1, 2, none⟩ = some (.int .i64 0) := V3_s.c 2 _ rfl
    have q3_s_3 : w3.cell? ⟨w.heap.size + 1 + 1 + 1 + 1, 3, none⟩ = some (.int .i64 0) := V3_s.c 3 _ rfl
    have q3_s_4 : w3.cell? ⟨w.heap.size + 1 + 1 + 1 + 1, 4, none⟩ = some (.int .i64 0) := V3_s.c 4 _ rfl
    have q3_s_5 : w3.cell? ⟨w.heap.size + 1 + 1 + 1 + 1, 5, none⟩ = some (.int .i64 0) := V3_s.c 5 _ rfl
    have q3_s_6 : w3.cell? ⟨w.heap.size + 1 + 1 + 1 + 1, 6, none⟩ = some (.int .i64 0) := V3_s.c 6 _ rfl
    have q3_s_7 : w3.cell? ⟨w.heap.size + 1 + 1 + 1 + 1, 7, none⟩ = some (.int .i64 0) := V3_s.c 7 _ rfl
    have f3_s := V3_s.2.2
    have L3_s := V3_s.lt
    have N3_s := Nat.ne_of_gt L3_s
    have M3_s := Nat.ne_of_lt L3_s
    have S3 := G3.size
    have HG3 := Lib.hid G3; clear G3 hb
    rcases ho with ⟨n3, hn3, hz3, rfl⟩ | ⟨u, v, hu, iu, iv, rfl⟩
    · exact ⟨rfl, .inl ⟨n3, by unfold applyX Bd.mom; simp only [if_pos h0, if_neg h3, hn3, andThen_ok, andThen_err], hz3, rfl⟩, HG3.out⟩
    have Hhu := Lib.hid hu; clear hu
    go_wp2_with (with_reducible refine M.stopPost ?_)
    go_region_held2 (fun w' => w'.cell? ⟨w.heap.size, 0, none⟩ = some (.int .i64 a.shape) ∧ w'.cell? ⟨w.heap.size, 1, none⟩ = some (.int .i64 a.sx) ∧ w'.cell? ⟨w.heap.size, 2, none⟩ = some (.int .i64 a.sy) ∧ w'.cell? ⟨w.heap.size, 3, none⟩ = some (.int .i64 a.mass) ∧ w'.cell? ⟨w.heap.size, 4, none⟩ = some (.int .i64 a.px) ∧ w'.cell? ⟨w.heap.size, 5, none⟩ = some (.int .i64 a.py) ∧ w'.cell? ⟨w.heap.size, 6, none⟩ = some (.int .i64 a.mx) ∧ w'.cell? ⟨w.heap.size, 7, none⟩ = some (.int .i64 a.my) ∧ w'.cell? ⟨w.heap.size + 1, 0, none⟩ = some (.int .i64 b.shape) ∧ w'.cell? ⟨w.heap.size + 1, 1, none⟩ = some (.int .i64 b.sx) ∧ w'.cell? ⟨w.heap.size + 1, 2, none⟩ = some (.int .i64 b.sy) ∧ w'.cell? ⟨w.heap.size + 1, 3, none⟩ = some (.int .i64 b.mass) ∧ w'.cell? ⟨w.heap.size + 1, 4, none⟩ = some (.int .i64 b.px) ∧ w'.cell? ⟨w.heap.size + 1, 5, none⟩ = some (.int .i64 b.py) ∧ w'.cell? ⟨w.heap.size + 1, 6, none⟩ = some (.int .i64 u) ∧ w'.cell? ⟨w.heap.size + 1, 7, none⟩ = some (.int .i64 v)) (first | (go_keep; done) | (simp [*, go_sem, World.cell?_alloc_some, World.cell?_setCell_far]; done))
      (fail)
    all_goals go_wp2_with (with_reducible refine M.stopPost ?_)
    all_goals (try refine M.Stop.mk ?_)
    all_goals refine bodyPost_ret (v := .tuple #[.agg #[.int .i64 a.shape, .int .i64 a.sx, .int .i64 a.sy, .int .i64 a.mass, .int .i64 a.px, .int .i64 a.py, .int .i64 a.mx, .int .i64 a.my], .agg #[.int .i64 b.shape, .int .i64 b.sx, .int .i64 b.sy, .int .i64 b.mass, .int .i64 b.px, .int .i64 b.py, .int .i64 u, .int .i64 v]]) (by first | (simp [results, Try.results31, go_sem, q3_r_0, q3_r_1, q3_r_2, q3_r_3, q3_r_4, q3_r_5, q3_r_6, q3_r_7, f3_r, L3_r, N3_r, M3_r, q3_s_0, q3_s_1, q3_s_2, q3_s_3, q3_s_4, q3_s_5, q3_s_6, q3_s_7, f3_s, L3_s, N3_s, M3_s]; done) | (simp [results, Try.results31, go_sem, *]; done)) rfl ⟨.inr ⟨a, ⟨b.shape, b.sx, b.sy, b.mass, b.px, b.py, u, v⟩, by unfold applyX Bd.mom; simp only [if_pos h0, if_neg h3, Hhu.out, andThen_ok, andThen_err], HA.out, ⟨HB.out.shape, HB.out.sx, HB.out.sy, HB.out.mass, HB.out.px, HB.out.py, iu, iv⟩, rfl⟩, by have G := HG3.out; (repeat (with_reducible refine M.Below.drewN ?_ _)); go_grown⟩
  · have h0 : a.mass = 0 := bne_eq_false_iff_eq.1 (by assumption)
    have h3 : b.mass = 0 := bne_eq_false_iff_eq.1 (by assumption)
    go_region_held2 (fun w' => w'.cell? ⟨w.heap.size, 0, none⟩ = some (.int .i64 a.shape) ∧ w'.cell? ⟨w.heap.size, 1, none⟩ = some (.int .i64 a.sx) ∧ w'.cell? ⟨w.heap.size, 2, none⟩ = some (.int .i64 a.sy) ∧ w'.cell? ⟨w.heap.size, 3, none⟩ = some (.int .i64 a.mass) ∧ w'.cell? ⟨w.heap.size, 4, none⟩ = some (.int .i64 a.px) ∧ w'.cell? ⟨w.heap.size, 5, none⟩ = some (.int .i64 a.py) ∧ w'.cell? ⟨w.heap.size, 6, none⟩ = some (.int .i64 a.mx) ∧ w'.cell? ⟨w.heap.size, 7, none⟩ = some (.int .i64 a.my) ∧ w'.cell? ⟨w.heap.size + 1, 0, none⟩ = some (.int .i64 b.shape) ∧ w'.cell? ⟨w.heap.size + 1, 1, none⟩ = some (.int .i64 b.sx) ∧ w'.cell? ⟨w.heap.size + 1, 2, none⟩ = some (.int .i64 b.sy) ∧ w'.cell? ⟨w.heap.size + 1, 3, none⟩ = some (.int .i64 b.mass) ∧ w'.cell? ⟨w.heap.size + 1, 4, none⟩ = some (.int .i64 b.px) ∧ w'.cell? ⟨w.heap.size + 1, 5, none⟩ = some (.int .i64 b.py) ∧ w'.cell? ⟨w.heap.size + 1, 6, none⟩ = some (.int .i64 b.mx) ∧ w'.cell? ⟨w.heap.size + 1, 7, none⟩ = some (.int .i64 b.my)) (first | (go_keep; done) | (simp [*, go_sem, World.cell?_alloc_some, World.cell?_setCell_far]; done))
      (fail)
    all_goals go_wp2_with (with_reducible refine M.stopPost ?_)
    all_goals (try refine M.Stop.mk ?_)
    all_goals refine bodyPost_ret (v := .tuple #[.agg #[.int .i64 a.shape, .int .i64 a.sx, .int .i64 a.sy, .int .i64 a.mass, .int .i64 a.px, .int .i64 a.py, .int .i64 a.mx, .int .i64 a.my], .agg #[.int .i64 b.shape, .int .i64 b.sx, .int .i64 b.sy, .int .i64 b.mass, .int .i64 b.px, .int .i64 b.py, .int .i64 b.mx, .int .i64 b.my]]) (by first | (simp [results, Try.results31, go_sem]; done) | (simp [results, Try.results31, go_sem, *]; done)) rfl ⟨.inr ⟨a, b, by unfold applyX Bd.mom; simp only [if_pos h0, if_pos h3, andThen_ok, andThen_err], HA.out, HB.out, rfl⟩, by (repeat (with_reducible refine M.Below.drewN ?_ _)); go_grown⟩
theorem bothK_x (a b : Bd) (ha : a.ok) (hb : b.ok) (w : World) :
    Calls Try.prog 67 #[.agg #[.int .i64 a.shape, .int .i64 a.sx, .int .i64 a.sy, .int .i64 a.mass, .int .i64 a.px, .int .i64 a.py, .int .i64 a.mx, .int .i64 a.my], .agg #[.int .i64 b.shape, .int .i64 b.sx, .int .i64 b.sy, .int .i64 b.mass, .int .i64 b.px, .int .i64 b.py, .int .i64 b.mx, .int .i64 b.my]] w fun en w' => OutI (bothK a b) en ∧ Bw w w' := by
  have C1 := Lib.hid (light_x a ha)
  have C2 := Lib.hid (light_x b hb)
  have C3 := Lib.hid calcAdd_x
  go_enter Try.func67, Try.ntmps67
  go_wp2_with (with_reducible refine M.stopPost ?_)
  (with_reducible refine (C1.out _).mono ?_); rintro en w1 ⟨ho, hb⟩
  have G1 : Below w.heap.size w w1 := Below.trans (by (repeat (with_reducible refine M.Below.drewN ?_ _)); go_grown) (hb.mono (by go_size))
  have V1_a : M.Var w1 (w.heap.size) #[.int .i64 a.shape, .int .i64 a.sx, .int .i64 a.sy, .int .i64 a.mass, .int .i64 a.px, .int .i64 a.py, .int .i64 a.mx, .int .i64 a.my] := M.Var.mono (b := w.heap.size) (cs := #[.int .i64 a.shape, .int .i64 a.sx, .int .i64 a.sy, .int .i64 a.mass, .int .i64 a.px, .int .i64 a.py, .int .i64 a.mx, .int .i64 a.my]) (by (repeat (first | (with_reducible assumption) | (with_reducible apply M.var_setV) | (with_reducible apply M.var_setI) | (with_reducible apply M.var_setB) | (with_reducible apply M.var_setHt) | (with_reducible apply M.var_setBd) | (with_reducible apply M.var_set2) | (with_reducible apply M.var_set3) | (with_reducible apply M.var_set4) | (with_reducible apply M.var_set45) | (with_reducible apply M.var_set67) | (with_reducible apply M.var_setF) | (with_reducible refine M.var_alloc' _ _ _ ?_; first | rfl | (focus (simp [go_sem]; done))) | (with_reducible refine M.Var.alloc ?_ _) | (with_reducible refine M.Var.drewN ?_ _) | (with_reducible refine M.Var.drew ?_) | (with_reducible refine M.Var.far ?_ _ _ ?hFar; case hFar => (first | omega | ((try simp [go_sem]) <;> omega))) | fail))) hb
  have q1_a_0 : w1.cell? ⟨w.heap.size, 0, none⟩ = some (.int .i64 a.shape) := V1_a.c 0 _ rfl
  have q1_a_1 : w1.cell? ⟨w.heap.size, 1, none⟩ = some (.int .i64 a.sx) := V1_a.c 1 _ rfl
  have q1_a_2 : w1.cell? ⟨w.heap.size, 2, none⟩ = some (.int .i64 a.sy) := V1_a.c 2 _ rfl
  have q1_a_3 : w1.cell? ⟨w.heap.size, 3, none⟩ = some (.int .i64 a.mass) := V1_a.c 3 _ rfl
  have q1_a_4 : w1.cell? ⟨w.heap.size, 4, none⟩ = some (.int .i64 a.px) := V1_a.c 4 _ rfl
  have q1_a_5 : w1.cell? ⟨w.heap.size, 5, none⟩ = some (.int .i64 a.py) := V1_a.c 5 _ rfl
  have q1_a_6 : w1.cell? ⟨w.heap.size, 6, none⟩ = some (.int .i64 a.mx) := V1_a.c 6 _ rfl
  have q1_a_7 : w1.cell? ⟨w.heap.size, 7, none⟩ = some (.int .i64 a.my) := V1_a.c 7 _ rfl
  have f1_a := V1_a.2.2
  have L1_a := V1_a.lt
  have N1_a := Nat.ne_of_gt L1_a
  have M1_a := Nat.ne_of_lt L1_a
  have V1_b : M.Var w1 (w.heap.size + 1) #[.int .i64 b.shape, .int .i64 b.sx, .int .i64 b.sy, .int .i64 b.mass, .int .i64 b.px, .int .i64 b.py, .int .i64 b.mx, .int .i64 b.my] := M.Var.mono (b := w.heap.size + 1) (cs := #[.int .i64 b.shape, .int .i64 b.sx, .int .i64 b.sy, .int .i64 b.mass, .int .i64 b.px, .int .i64 b.py, .int .i64 b.mx, .int .i64 b.my]) (by (repeat (first | (with_reducible assumption) | (with_reducible apply M.var_setV) | (with_reducible apply M.var_setI) | (with_reducible apply M.var_setB) | (with_reducible apply M.var_setHt) | (with_reducible apply M.var_setBd) | (with_reducible apply M.var_set2) | (with_reducible apply M.var_set3) | (with_reducible apply M.var_set4) | (with_reducible apply M.var_set45) | (with_reducible apply M.var_set67) | (with_reducible apply M.var_setF) | (with_reducible refine M.var_alloc' _ _ _ ?_; first | rfl | (focus (simp [go_sem]; done))) | (with_reducible refine M.Var.alloc ?_ _) | (with_reducible refine M.Var.drewN ?_ _) | (with_reducible refine M.Var.drew ?_) | (with_reducible refine M.Var.far ?_ _ _ ?hFar; case hFar => (first | omega | ((try simp [go_sem]) <;> omega))) | fail))) hb
  have q1_b_0 : w1.cell? ⟨w.heap.size + 1, 0, none⟩ = some (.int .i64 b.shape) := V1_b.c 0 _ rfl
  have q1_b_1 : w1.cell? ⟨w.heap.size + 1, 1, none⟩ = some (.int .i64 b.sx) := V1_b.c 1 _ rfl
  have q1_b_2 : w1.cell? ⟨w.heap.size + 1, 2, none⟩ = some (.int .i64 b.sy) := V1_b.c 2 _ rfl
  have q1_b_3 : w1.cell? ⟨w.heap.size + 1, 3, none⟩ = some (.int .i64 b.mass) := V1_b.c 3 _ rfl
  have q1_b_4 : w1.cell? ⟨w.heap.size + 1, 4, none⟩ = some (.int .i64 b.px) := V1_b.c 4 _ rfl
  have q1_b_5 : w1.cell? ⟨w.heap.size + 1, 5, none⟩ = some (.int .i64 b.py) := V1_b.c 5 _ rfl
  have q1_b_6 : w1.cell? ⟨w.heap.size + 1, 6, none⟩ = some (.int .i64 b.mx) := V1_b.c 6 _ rfl
  have q1_b_7 : w1.cell? ⟨w.heap.size + 1, 7, none⟩ = some (.int .i64 b.my) := V1_b.c 7 _ rfl
  have f1_b := V1_b.2.2
  have L1_b := V1_b.lt
  have N1_b := Nat.ne_of_gt L1_b
  have M1_b := Nat.ne_of_lt L1_b
  have S1 := G1.size
  have HG1 := Lib.hid G1; clear G1 hb
  rcases ho with ⟨n1, hn1, hz1, rfl⟩ | ⟨k, hk, ik, rfl⟩
  · exact ⟨rfl, .inl ⟨n1, by unfold bothK; simp only [hn1, andThen_ok, andThen_err], hz1, rfl⟩, HG1.out⟩
  have Hhk := Lib.hid hk; clear hk
  go_wp2_with (with_reducible refine M.stopPost ?_)
  (with_reducible refine (C2.out _).mono ?_); rintro en w2 ⟨ho, hb⟩
  have G2 : Below w.heap.size w w2 := Below.trans (by have G := HG1.out; (repeat (with_reducible refine M.Below.drewN ?_ _)); go_grown) (hb.mono (by go_size))
  have V2_a : M.Var w2 (w.heap.size) #[.int .i64 a.shape, .int .i64 a.sx, .int .i64 a.sy, .int .i64 a.mass, .int .i64 a.px, .int .i64 a.py, .int .i64 a.mx, .int .i64 a.my] := M.Var.mono (b := w.heap.size) (cs := #[.int .i64 a.shape, .int .i64 a.sx, .int .i64 a.sy, .int .i64 a.mass, .int .i64 a.px, .int .i64 a.py, .int .i64 a.mx, .int .i64 a.my]) (by (repeat (first | (with_reducible assumption) | (with_reducible apply M.var_setV) | (with_reducible apply M.var_setI) | (with_reducible apply M.var_setB) | (with_reducible apply M.var_setHt) | (with_reducible apply M.var_setBd) | (with_reducible apply M.var_set2) | (with_reducible apply M.var_set3) | (with_reducible apply M.var_set4) | (with_reducible apply M.var_set45) | (with_reducible apply M.var_set67) | (with_reducible apply M.var_setF) | (with_reducible refine M.var_alloc' _ _ _ ?_; first | rfl | (focus (simp [go_sem]; done))) | (with_reducible refine M.Var.alloc ?_ _) | (with_reducible refine M.Var.drewN ?_ _) | (with_reducible refine M.Var.drew ?_) | (with_reducible refine M.Var.far ?_ _ _ ?hFar; case hFar => (first | omega | ((try simp [go_sem]) <;> omega))) | fail))) hb
  have q2_a_0 : w2.cell? ⟨w.heap.size, 0, none⟩ = some (.int .i64 a.shape) := V2_a.c 0 _ rfl
  have q2_a_1 : w2.cell? ⟨w.heap.size, 1, none⟩ = some (.int .i64 a.sx) := V2_a.c 1 _ rfl
  have q2_a_2 : w2.cell? ⟨w.heap.size, 2, none⟩ = some (.int .i64 a.sy) := V2_a.c 2 _ rfl
  have q2_a_3 : w2.cell? ⟨w.heap.size, 3, none⟩ = some (.int .i64 a.mass) := V2_a.c 3 _ rfl
  have q2_a_4 : w2.cell? ⟨w.heap.size, 4, none⟩ = some (.int .i64 a.px) := V2_a.c 4 _ rfl
  have q2_a_5 : w2.cell? ⟨w.heap.size, 5, none⟩ = some (.int .i64 a.py) := V2_a.c 5 _ rfl
  have q2_a_6 : w2.cell? ⟨w.heap.size, 6, none⟩ = some (.int .i64 a.mx) := V2_a.c 6 _ rfl
  have q2_a_7 : w2.cell? ⟨w.heap.size, 7, none⟩ = some (.int .i64 a.my) := V2_a.c 7 _ rfl
  have f2_a := V2_a.2.2
  have L2_a := V2_a.lt
  have N2_a := Nat.ne_of_gt L2_a
  have M2_a := Nat.ne_of_lt L2_a
  have V2_b : M.Var w2 (w.heap.size + 1) #[.int .i64 b.shape, .int .i64 b.sx, .int .i64 b.sy, .int .i64 b.mass, .int .i64 b.px, .int .i64 b.py, .int .i64 b.mx, .int .i64 b.my] := M.Var.mono (b := w.heap.size + 1) (cs := #[.int .i64 b.shape, .int .i64 b.sx, .int .i64 b.sy, .int .i64 b.mass, .int .i64 b.px, .int .i64 b.py, .int .i64 b.mx, .int .i64 b.my]) (by (repeat (first | (with_reducible assumption) | (with_reducible apply M.var_setV) | (with_reducible apply M.var_setI) | (with_reducible apply M.var_setB) | (with_reducible apply M.var_setHt) | (with_reducible apply M.var_setBd) | (with_reducible apply M.var_set2) | (with_reducible apply M.var_set3) | (with_reducible apply M.var_set4) | (with_reducible apply M.var_set45) | (with_reducible apply M.var_set67) | (with_reducible apply M.var_setF) | (with_reducible refine M.var_alloc' _ _ _ ?_; first | rfl | (focus (simp [go_sem]; done))) | (with_reducible refine M.Var.alloc ?_ _) | (with_reducible refine M.Var.drewN ?_ _) | (with_reducible refine M.Var.drew ?_) | (with_reducible refine M.Var.far ?_ _ _ ?hFar; case hFar => (first | omega | ((try simp [go_sem]) <;> omega))) | fail))) hb
  have q2_b_0 : w2.cell? ⟨w.heap.size + 1, 0, none⟩ = some (.int .i64 b.shape) := V2_b.c 0 _ rfl
  have q2_b_1 : w2.cell? ⟨w.heap.size + 1, 1, none⟩ = some (.int .i64 b.sx) := V2_b.c 1 _ rfl
  have q2_b_2 : w2.cell? ⟨w.heap.size + 1, 2, none⟩ = some (.int .i64 b.sy) := V2_b.c 2 _ rfl
  have q2_b_3 : w2.cell? ⟨w.heap.size + 1, 3, none⟩ = some (.int .i64 b.mass) := V2_b.c 3 _ rfl
  have q2_b_4 : w2.cell? ⟨w.heap.size + 1, 4, none⟩ = some (.int .i64 b.px) := V2_b.c 4 _ rfl
  have q2_b_5 : w2.cell? ⟨w.heap.size + 1, 5, none⟩ = some (.int .i64 b.py) := V2_b.c 5 _ rfl
  have q2_b_6 : w2.cell? ⟨w.heap.size + 1, 6, none⟩ = some (.int .i64 b.mx) := V2_b.c 6 _ rfl
  have q2_b_7 : w2.cell? ⟨w.heap.size + 1, 7, none⟩ = some (.int .i64 b.my) := V2_b.c 7 _ rfl
  have f2_b := V2_b.2.2
  have L2_b := V2_b.lt
  have N2_b := Nat.ne_of_gt L2_b
  have M2_b := Nat.ne_of_lt L2_b
  clear V1_a f1_a L1_a N1_a M1_a q1_a_0 q1_a_1 q1_a_2 q1_a_3 q1_a_4 q1_a_5 q1_a_6 q1_a_7 V1_b f1_b L1_b N1_b M1_b q1_b_0 q1_b_1 q1_b_2 q1_b_3 q1_b_4 q1_b_5 q1_b_6 q1_b_7
  have S2 := G2.size
  have HG2 := Lib.hid G2; clear G2 hb
  rcases ho with ⟨n2, hn2, hz2, rfl⟩ | ⟨l, hl, il, rfl⟩
  · exact ⟨rfl, .inl ⟨n2, by unfold bothK; simp only [Hhk.out, hn2, andThen_ok, andThen_err], hz2, rfl⟩, HG2.out⟩
  have Hhl := Lib.hid hl; clear hl
  go_wp2_with (with_reducible refine M.stopPost ?_)
  (with_reducible refine ((C3.out _ _ ik il) _).mono ?_); rintro en w' ⟨⟨n3, hn3, hz3, rfl⟩ | ⟨s, hs, is, rfl⟩, d3, rfl⟩
  · exact ⟨rfl, .inl ⟨n3, by unfold bothK; simp only [Hhk.out, Hhl.out, hn3, andThen_ok, andThen_err], hz3, rfl⟩, by have G := HG2.out; (repeat (with_reducible refine M.Below.drewN ?_ _)); go_grown⟩
  have Hhs := Lib.hid hs; clear hs
  go_wp2_with (with_reducible refine M.stopPost ?_)
  (try refine M.Stop.mk ?_)
  go_ret
  exact ⟨.inr ⟨s, by unfold bothK; simp only [Hhk.out, Hhl.out, Hhs.out, andThen_ok, andThen_err], is, rfl⟩, by have G := HG2.out; (repeat (with_reducible refine M.Below.drewN ?_ _)); go_grown⟩
theorem speedK_x (a b : Bd) (nx ny : Int) (ha : a.ok) (hb : b.ok) (h1 : I64 nx) (h2 : I64 ny) (w : World) :
    Calls Try.prog 68 #[.agg #[.int .i64 a.shape, .int .i64 a.sx, .int .i64 a.sy, .int .i64 a.mass, .int .i64 a.px, .int .i64 a.py, .int .i64 a.mx, .int .i64 a.my], .agg #[.int .i64 b.shape, .int .i64 b.sx, .int .i64 b.sy, .int .i64 b.mass, .int .i64 b.px, .int .i64 b.py, .int .i64 b.mx, .int .i64 b.my], .agg #[.int .i64 nx, .int .i64 ny]] w fun en w' => OutI (speedK a b (nx, ny)) en ∧ Bw w w' := by
  have C1 := Lib.hid (speed_x b hb)
  have C2 := Lib.hid (speed_x a ha)
  have C3 := Lib.hid vecSub_x
  have C4 := Lib.hid vecDot_x
  go_enter Try.func68, Try.ntmps68
  go_wp2_with (with_reducible refine M.stopPost ?_)
  (with_reducible refine (C1.out _).mono ?_); rintro en w1 ⟨ho, hb⟩
  have G1 : Below w.heap.size w w1 := Below.trans (by (repeat (with_reducible refine M.Below.drewN ?_ _)); go_grown) (hb.mono (by go_size))
  have V1_a : M.Var w1 (w.heap.size) #[.int .i64 a.shape, .int .i64 a.sx, .int .i64 a.sy, .int .i64 a.mass, .int .i64 a.px, .int .i64 a.py, .int .i64 a.mx, .int .i64 a.my] := M.Var.mono (b := w.heap.size) (cs := #[.int .i64 a.shape, .int .i64 a.sx, .int .i64 a.sy, .int .i64 a.mass, .int .i64 a.px, .int .i64 a.py, .int .i64 a.mx, .int .i64 a.my]) (by (repeat (first | (with_reducible assumption) | (with_reducible apply M.var_setV) | (with_reducible apply M.var_setI) | (with_reducible apply M.var_setB) | (with_reducible apply M.var_setHt) | (with_reducible apply M.var_setBd) | (with_reducible apply M.var_set2) | (with_reducible apply M.var_set3) | (with_reducible apply M.var_set4) | (with_reducible apply M.var_set45) | (with_reducible apply M.var_set67) | (with_reducible apply M.var_setF) | (with_reducible refine M.var_alloc' _ _ _ ?_; first | rfl | (focus (simp [go_sem]; done))) | (with_reducible refine M.Var.alloc ?_ _) | (with_reducible refine M.Var.drewN ?_ _) | (with_reducible refine M.Var.drew ?_) | (with_reducible refine M.Var.far ?_ _ _ ?hFar; case hFar => (first | omega | ((try simp [go_sem]) <;> omega))) | fail))) hb
  have q1_a_0 : w1.cell? ⟨w.heap.size, 0, none⟩ = some (.int .i64 a.shape) := V1_a.c 0 _ rfl
  have q1_a_1 : w1.cell? ⟨w.heap.size, 1, none⟩ = some (.int .i64 a.sx) := V1_a.c 1 _ rfl
  have q1_a_2 : w1.cell? ⟨w.heap.size, 2, none⟩ = some (.int .i64 a.sy) := V1_a.c 2 _ rfl
  have q1_a_3 : w1.cell? ⟨w.heap.size, 3, none⟩ = some (.int .i64 a.mass) := V1_a.c 3 _ rfl
  have q1_a_4 : w1.cell? ⟨w.heap.size, 4, none⟩ = some (.int .i64 a.px) := V1_a.c 4 _ rfl
  have q1_a_5 : w1.cell? ⟨w.heap.size, 5, none⟩ = some (.int .i64 a.py) := V1_a.c 5 _ rfl
  have q1_a_6 : w1.cell? ⟨w.heap.size, 6, none⟩ = some (.int .i64 a.mx) := V1_a.c 6 _ rfl
  have q1_a_7 : w1.cell? ⟨w.heap.size, 7, none⟩ = some (.int .i64 a.my) := V1_a.c 7 _ rfl
  have f1_a := V1_a.2.2
  have L1_a := V1_a.lt
  have N1_a := Nat.ne_of_gt L1_a
  have M1_a := Nat.ne_of_lt L1_a
  have V1_b : M.Var w1 (w.heap.size + 1) #[.int .i64 b.shape, .int .i64 b.sx, .int .i64 b.sy, .int .i64 b.mass, .int .i64 b.px, .int .i64 b.py, .int .i64 b.mx, .int .i64 b.my] := M.Var.mono (b := w.heap.size + 1) (cs := #[.int .i64 b.shape, .int .i64 b.sx, .int .i64 b.sy, .int .i64 b.mass, .int .i64 b.px, .int .i64 b.py, .int .i64 b.mx, .int .i64 b.my]) (by (repeat (first | (with_reducible assumption) | (with_reducible apply M.var_setV) | (with_reducible apply M.var_setI) | (with_reducible apply M.var_setB) | (with_reducible apply M.var_setHt) | (with_reducible apply M.var_setBd) | (with_reducible apply M.var_set2) | (with_reducible apply M.var_set3) | (with_reducible apply M.var_set4) | (with_reducible apply M.var_set45) | (with_reducible apply M.var_set67) | (with_reducible apply M.var_setF) | (with_reducible refine M.var_alloc' _ _ _ ?_; first | rfl | (focus (simp [go_sem]; done))) | (with_reducible refine M.Var.alloc ?_ _) | (with_reducible refine M.Var.drewN ?_ _) | (with_reducible refine M.Var.drew ?_) | (with_reducible refine M.Var.far ?_ _ _ ?hFar; case hFar => (first | omega | ((try simp [go_sem]) <;> omega))) | fail))) hb
  have q1_b_0 : w1.cell? ⟨w.heap.size + 1, 0, none⟩ = some (.int .i64 b.shape) := V1_b.c 0 _ rfl
  have q1_b_1 : w1.cell? ⟨w.heap.size + 1, 1, none⟩ = some (.int .i64 b.sx) := V1_b.c 1 _ rfl
  have q1_b_2 : w1.cell? ⟨w.heap.size + 1, 2, none⟩ = some (.int .i64 b.sy) := V1_b.c 2 _ rfl
  have q1_b_3 : w1.cell? ⟨w.heap.size + 1, 3, none⟩ = some (.int .i64 b.mass) := V1_b.c 3 _ rfl
  have q1_b_4 : w1.cell? ⟨w.heap.size + 1, 4, none⟩ = some (.int .i64 b.px) := V1_b.c 4 _ rfl
  have q1_b_5 : w1.cell? ⟨w.heap.size + 1, 5, none⟩ = some (.int .i64 b.py) := V1_b.c 5 _ rfl
  have q1_b_6 : w1.cell? ⟨w.heap.size + 1, 6, none⟩ = some (.int .i64 b.mx) := V1_b.c 6 _ rfl
  have q1_b_7 : w1.cell? ⟨w.heap.size + 1, 7, none⟩ = some (.int .i64 b.my) := V1_b.c 7 _ rfl
  have f1_b := V1_b.2.2
  have L1_b := V1_b.lt
  have N1_b := Nat.ne_of_gt L1_b
  have M1_b := Nat.ne_of_lt L1_b
  have V1_n : M.Var w1 (w.heap.size + 1 + 1) #[.int .i64 nx, .int .i64 ny] := M.Var.mono (b := w.heap.size + 1 + 1) (cs := #[.int .i64 nx, .int .i64 ny]) (by (repeat (first | (with_reducible assumption) | (with_reducible apply M.var_setV) | (with_reducible apply M.var_setI) | (with_reducible apply M.var_setB) | (with_reducible apply M.var_setHt) | (with_reducible apply M.var_setBd) | (with_reducible apply M.var_set2) | (with_reducible apply M.var_set3) | (with_reducible apply M.var_set4) | (with_reducible apply M.var_set45) | (with_reducible apply M.var_set67) | (with_reducible apply M.var_setF) | (with_reducible refine M.var_alloc' _ _ _ ?_; first | rfl | (focus (simp [go_sem]; done))) | (with_reducible refine M.Var.alloc ?_ _) | (with_reducible refine M.Var.drewN ?_ _) | (with_reducible refine M.Var.drew ?_) | (with_reducible refine M.Var.far ?_ _ _ ?hFar; case hFar => (first | omega | ((try simp [go_sem]) <;> omega))) | fail))) hb
  have q1_n_0 : w1.cell? ⟨w.heap.size + 1 + 1, 0, none⟩ = some (.int .i64 nx) := V1_n.c 0 _ rfl
  have q1_n_1 : w1.cell? ⟨w.heap.size + 1 + 1, 1, none⟩ = some (.int .i64 ny) := V1_n.c 1 _ rfl
  have f1_n := V1_n.2.2
  have L1_n := V1_n.lt
  have N1_n := Nat.ne_of_gt L1_n
  have M1_n := Nat.ne_of_lt L1_n
  have S1 := G1.size
  have HG1 := Lib.hid G1; clear G1 hb
  rcases ho with ⟨n1, hn1, hz1, rfl⟩ | ⟨vx, vy, hv, ivx, ivy, rfl⟩
  · exact ⟨rfl, .inl ⟨n1, by unfold speedK; simp only [hn1, andThen_ok, andThen_err], hz1, rfl⟩, HG1.out⟩
  have Hhv := Lib.hid hv; clear hv
  go_wp2_with (with_reducible refine M.stopPost ?_)
  go_region_held2 (fun w' => w'.cell? ⟨w1.heap.size, 0, none⟩ = some (.int .i64 vx) ∧ w'.cell? ⟨w1.heap.size, 1, none⟩ = some (.int .i64 vy) ∧ w'.cell? ⟨w.heap.size, 0, none⟩ = some (.int .i64 a.shape) ∧ w'.cell? ⟨w.heap.size, 1, none⟩ = some (.int .i64 a.sx) ∧ w'.cell? ⟨w.heap.size, 2, none⟩ = some (.int .i64 a.sy) ∧ w'.cell? ⟨w.heap.size, 3, none⟩ = some (.int .i64 a.mass) ∧ w'.cell? ⟨w.heap.size, 4, none⟩ = some (.int .i64 a.px) ∧ w'.cell? ⟨w.heap.size, 5, none⟩ = some (.int .i64 a.py) ∧ w'.cell? ⟨w.heap.size, 6, none⟩ = some (.int .i64 a.mx) ∧ w'.cell? ⟨w.heap.size, 7, none⟩ = some (.int .i64 a.my) ∧ w'.cell? ⟨w.heap.size + 1 + 1, 0, none⟩ = some (.int .i64 nx) ∧ w'.cell? ⟨w.heap.size + 1 + 1, 1, none⟩ = some (.int .i64 ny)) (first | (go_keep; done) | (simp [*, go_sem, World.cell?_alloc_some, World.cell?_setCell_far]; done))
    (first
    | (go_at_call 53; refine (C2.out _).mono ?_; rintro en w2 ⟨ho, hb⟩
       have G2 : Below w.heap.size w w2 := Below.trans (by have G := HG1.out; (repeat (with_reducible refine M.Below.drewN ?_ _)); go_grown) (hb.mono (by go_size))
       have V2_a : M.Var w2 (w.heap.size) #[.int .i64 a.shape, .int .i64 a.sx, .int .i64 a.sy, .int .i64 a.mass, .int .i64 a.px, .int .i64 a.py, .int .i64 a.mx, .int .i64 a.my] := M.Var.mono (b := w.heap.size) (cs := #[.int .i64 a.shape, .int .i64 a.sx, .int .i64 a.sy, .int .i64 a.mass, .int .i64 a.px, .int .i64 a.py, .int .i64 a.mx, .int .i64 a.my]) (by (repeat (first | (with_reducible assumption) | (with_reducible apply M.var_setV) | (with_reducible apply M.var_setI) | (with_reducible apply M.var_setB) | (with_reducible apply M.var_setHt) | (with_reducible apply M.var_setBd) | (with_reducible apply M.var_set2) | (with_reducible apply M.var_set3) | (with_reducible apply M.var_set4) | (with_reducible apply M.var_set45) | (with_reducible apply M.var_set67) | (with_reducible apply M.var_setF) | (with_reducible refine M.var_alloc' _ _ _ ?_; first | rfl | (focus (simp [go_sem]; done))) | (with_reducible refine M.Var.alloc ?_ _) | (with_reducible refine M.Var.drewN ?_ _) | (with_reducible refine M.Var.drew ?_) | (with_reducible refine M.Var.far ?_ _ _ ?hFar; case hFar => (first | omega | ((try simp [go_sem]) <;> omega))) | fail))) hb
       have q2_a_0 : w2.cell? ⟨w.heap.size, 0, none⟩ = some (.int .i64 a.shape) := V2_a.c 0 _ rfl
       have q2_a_1 : w2.cell? ⟨w.heap.size, 1, none⟩ = some (.int .i64 a.sx) := V2_a.c 1 _ rfl
       have q2_a_2 : w2.cell? ⟨w.heap.size, 2, none⟩ = some (.int .i64 a.sy) := V2_a.c 2 _ rfl
       have q2_a_3 : w2.cell? ⟨w.heap.size, 3, none⟩ = some (.int .i64 a.mass) := V2_a.c 3 _ rfl
       have q2_a_4 : w2.cell? ⟨w.heap.size, 4, none⟩ = some (.int .i64 a.px) := V2_a.c 4 _ rfl
       have q2_a_5 : w2.cell? ⟨w.heap.size, 5, none⟩ = some (.int .i64 a.py) := V2_a.c 5 _ rfl
       have q2_a_6 : w2.cell? ⟨w.heap.size, 6, none⟩ = some (.int .i64 a.mx) := V2_a.c 6 _ rfl
       have q2_a_7 : w2.cell? ⟨w.heap.size, 7, none⟩ = some (.int .i64 a.my) := V2_a.c 7 _ rfl
       have f2_a := V2_a.2.2
       have L2_a := V2_a.lt
       have N2_a := Nat.ne_of_gt L2_a
       have M2_a := Nat.ne_of_lt L2_a
       have V2_b : M.Var w2 (w.heap.size + 1) #[.int .i64 b.shape, .int .i64 b.sx, .int .i64 b.sy, .int .i64 b.mass, .int .i64 b.px, .int .i64 b.py, .int .i64 b.mx, .int .i64 b.my] := M.Var.mono (b := w.heap.size + 1) (cs := #[.int .i64 b.shape, .int .i64 b.sx, .int .i64 b.sy, .int .i64 b.mass, .int .i64 b.px, .int .i64 b.py, .int .i64 b.mx, .int .i64 b.my]) (by (repeat (first | (with_reducible assumption) | (with_reducible apply M.var_setV) | (with_reducible apply M.var_setI) | (with_reducible apply M.var_setB) | (with_reducible apply M.var_setHt) | (with_reducible apply M.var_setBd) | (with_reducible apply M.var_set2) | (with_reducible apply M.var_set3) | (with_reducible apply M.var_set4) | (with_reducible apply M.var_set45) | (with_reducible apply M.var_set67) | (with_reducible apply M.var_setF) | (with_reducible refine M.var_alloc' _ _ _ ?_; first | rfl | (focus (simp [go_sem]; done))) | (with_reducible refine M.Var.alloc ?_ _) | (with_reducible refine M.Var.drewN ?_ _) | (with_reducible refine M.Var.drew ?_) | (with_reducible refine M.Var.far ?_ _ _ ?hFar; case hFar => (first | omega | ((try simp [go_sem]) <;> omega))) | fail))) hb
       have q2_b_0 : w2.cell? ⟨w.heap.size + 1, 0, none⟩ = some (.int .i64 b.shape) := V2_b.c 0 _ rfl
       have q2_b_1 : w2.cell? ⟨w.heap.size + 1, 1, none⟩ = some (.int .i64 b.sx) := V2_b.c 1 _ rfl
       have q2_b_2 : w2.cell? ⟨w.heap.size + 1, 2, none⟩ = some (.int .i64 b.sy) := V2_b.c 2 _ rfl
       have q2_b_3 : w2.cell? ⟨w.heap.size + 1, 3, none⟩ = some (.int .i64 b.mass) := V2_b.c 3 _ rfl
       have q2_b_4 : w2.cell? ⟨w.heap.size + 1, 4, none⟩ = some (.int .i64 b.px) := V2_b.c 4 _ rfl
       have q2_b_5 : w2.cell? ⟨w.heap.size + 1, 5, none⟩ = some (.int .i64 b.py) := V2_b.c 5 _ rfl
       have q2_b_6 : w2.cell? ⟨w.heap.size + 1, 6, none⟩ = some (.int .i64 b.mx) := V2_b.c 6 _ rfl
       have q2_b_7 : w2.cell? ⟨w.heap.size + 1, 7, none⟩ = some (.int .i64 b.my) := V2_b.c 7 _ rfl
       have f2_b := V2_b.2.2
       have L2_b := V2_b.lt
       have N2_b := Nat.ne_of_gt L2_b
       have M2_b := Nat.ne_of_lt L2_b
       have V2_n : M.Var w2 (w.heap.size + 1 + 1) #[.int .i64 nx, .int .i64 ny] := M.Var.mono (b := w.heap.size + 1 + 1) (cs := #[.int .i64 nx, .int .i64 ny]) (by (repeat (first | (with_reducible assumption) | (with_reducible apply M.var_setV) | (with_reducible apply M.var_setI) | (with_reducible apply M.var_setB) | (with_reducible apply M.var_setHt) | (with_reducible apply M.var_setBd) | (with_reducible apply M.var_set2) | (with_reducible apply M.var_set3) | (with_reducible apply M.var_set4) | (with_reducible apply M.var_set45) | (with_reducible apply M.var_set67) | (with_reducible apply M.var_setF) | (with_reducible refine M.var_alloc' _ _ _ ?_; first | rfl | (focus (simp [go_sem]; done))) | (with_reducible refine M.Var.alloc ?_ _) | (with_reducible refine M.Var.drewN ?_ _) | (with_reducible refine M.Var.drew ?_) | (with_reducible refine M.Var.far ?_ _ _ ?hFar; case hFar => (first | omega | ((try simp [go_sem]) <;> omega))) | fail))) hb
       have q2_n_0 : w2.cell? ⟨w.heap.size + 1 + 1, 0, none⟩ = some (.int .i64 nx) := V2_n.c 0 _ rfl
       have q2_n_1 : w2.cell? ⟨w.heap.size + 1 + 1, 1, none⟩ = some (.int .i64 ny) := V2_n.c 1 _ rfl
       have f2_n := V2_n.2.2
       have L2_n := V2_n.lt
       have N2_n := Nat.ne_of_gt L2_n
       have M2_n := Nat.ne_of_lt L2_n
       have V2_v : M.Var w2 (w1.heap.size) #[.int .i64 vx, .int .i64 vy] := M.Var.mono (b := w1.heap.size) (cs := #[.int .i64 vx, .int .i64 vy]) (by (repeat (first | (with_reducible assumption) | (with_reducible apply M.var_setV) | (with_reducible apply M.var_setI) | (with_reducible apply M.var_setB) | (with_reducible apply M.var_setHt) | (with_reducible apply M.var_setBd) | (with_reducible apply M.var_set2) | (with_reducible apply M.var_set3) | (with_reducible apply M.var_set4) | (with_reducible apply M.var_set45) | (with_reducible apply M.var_set67) | (with_reducible apply M.var_setF) | (with_reducible refine M.var_alloc' _ _ _ ?_; first | rfl | (focus (simp [go_sem]; done))) | (with_reducible refine M.Var.alloc ?_ _) | (with_reducible refine M.Var.drewN ?_ _) | (with_reducible refine M.Var.drew ?_) | (with_reducible refine M.Var.far ?_ _ _ ?hFar; case hFar => (first | omega | ((try simp [go_sem]) <;> omega))) | fail))) hb
       have q2_v_0 : w2.cell? ⟨w1.heap.size, 0, none⟩ = some (.int .i64 vx) := V2_v.c 0 _ rfl
       have q2_v_1 : w2.cell? ⟨w1.heap.size, 1, none⟩ = some (.int .i64 vy) := V2_v.c 1 _ rfl
       have f2_v := V2_v.2.2
       have L2_v := V2_v.lt
       have N2_v := Nat.ne_of_gt L2_v
       have M2_v := Nat.ne_of_lt L2_v
       clear V1_a f1_a q1_a_0 q1_a_1 q1_a_2 q1_a_3 q1_a_4 q1_a_5 q1_a_6 q1_a_7 V1_b f1_b q1_b_0 q1_b_1 q1_b_2 q1_b_3 q1_b_4 q1_b_5 q1_b_6 q1_b_7 V1_n f1_n q1_n_0 q1_n_1
       have S2 := G2.size
       have HG2 := Lib.hid G2; clear G2 hb
       rcases ho with ⟨n2, hn2, hz2, rfl⟩ | ⟨ux, uy, hu, iux, iuy, rfl⟩
       · exact ⟨rfl, .inl ⟨n2, by unfold speedK; simp only [Hhv.out, hn2, andThen_ok, andThen_err], hz2, rfl⟩, HG2.out⟩
       have Hhu := Lib.hid hu; clear hu)
    | (go_at_call 73; refine ((C3.out _ _ _ _ ivx ivy iux iuy) _).mono ?_; rintro en w3 ⟨ho, hb⟩
       have G3 : Below w.heap.size w w3 := Below.trans (by have G := HG2.out; (repeat (with_reducible refine M.Below.drewN ?_ _)); go_grown) (hb.mono (by go_size))
       have V3_a : M.Var w3 (w.heap.size) #[.int .i64 a.shape, .int .i64 a.sx, .int .i64 a.sy, .int .i64 a.mass, .int .i64 a.px, .int .i64 a.py, .int .i64 a.mx, .int .i64 a.my] := M.Var.mono (b := w.heap.size) (cs := #[.int .i64 a.shape, .int .i64 a.sx, .int .i64 a.sy, .int .i64 a.mass, .int .i64 a.px, .int .i64 a.py, .int .i64 a.mx, .int .i64 a.my]) (by (repeat (first | (with_reducible assumption) | (with_reducible apply M.var_setV) | (with_reducible apply M.var_setI) | (with_reducible apply M.var_setB) | (with_reducible apply M.var_setHt) | (with_reducible apply M.var_setBd) | (with_reducible apply M.var_set2) | (with_reducible apply M.var_set3) | (with_reducible apply M.var_set4) | (with_reducible apply M.var_set45) | (with_reducible apply M.var_set67) | (with_reducible apply M.var_setF) | (with_reducible refine M.var_alloc' _ _ _ ?_; first | rfl | (focus (simp [go_sem]; done))) | (with_reducible refine M.Var.alloc ?_ _) | (with_reducible refine M.Var.drewN ?_ _) | (with_reducible refine M.Var.drew ?_) | (with_reducible refine M.Var.far ?_ _ _ ?hFar; case hFar => (first | omega | ((try simp [go_sem]) <;> omega))) | fail))) hb
       have q3_a_0 : w3.cell? ⟨w.heap.size, 0, none⟩ = some (.int .i64 a.shape) := V3_a.c 0 _ rfl
       have q3_a_1 : w3.cell? ⟨w.heap.size, 1, none⟩ = some (.int .i64 a.sx) := V3_a.c 1 _ rfl
       have q3_a_2 : w3.cell? ⟨w.heap.size, 2, none⟩ = some (.int .i64 a.sy) := V3_a.c 2 _ rfl
       have q3_a_3 : w3.cell? ⟨w.heap.size, 3, none⟩ = some (.int .i64 a.mass) := V3_a.c 3 _ rfl
       have q3_a_4 : w3.cell? ⟨w.heap.size, 4, none⟩ = some (.int .i64 a.px) := V3_a.c 4 _ rfl
       have q3_a_5 : w3.cell? ⟨w.heap.size, 5, none⟩ = some (.int .i64 a.py) := V3_a.c 5 _ rfl
       have q3_a_6 : w3.cell? ⟨w.heap.size, 6, none⟩ = some (.int .i64 a.mx) := V3_a.c 6 _ rfl
       have q3_a_7 : w3.cell? ⟨w.heap.size, 7, none⟩ = some (.int .i64 a.my) := V3_a.c 7 _ rfl
       have f3_a := V3_a.2.2
       have L3_a := V3_a.lt
       have N3_a := Nat.ne_of_gt L3_a
       have M3_a := Nat.ne_of_lt L3_a
       have V3_b : M.Var w3 (w.heap.size + 1) #[.int .i64 b.shape, .int .i64 b.sx, .int .i64 b.sy, .int .i64 b.mass, .int .i64 b.px, .int .i64 b.py, .int .i64 b.mx, .int .i64 b.my] := M.Var.mono (b := w.heap.size + 1) (cs := #[.int .i64 b.shape, .int .i64 b.sx, .int .i64 b.sy, .int .i64 b.mass, .int .i64 b.px, .int .i64 b.py, .int .i64 b.mx, .int .i64 b.my]) (by (repeat (first | (with_reducible assumption) | (with_reducible apply M.var_setV) | (with_reducible apply M.var_setI) | (with_reducible apply M.var_setB) | (with_reducible apply M.var_setHt) | (with_reducible apply M.var_setBd) | (with_reducible apply M.var_set2) | (with_reducible apply M.var_set3) | (with_reducible apply M.var_set4) | (with_reducible apply M.var_set45) | (with_reducible apply M.var_set67) | (with_reducible apply M.var_setF) | (with_reducible refine M.var_alloc' _ _ _ ?_; first | rfl | (focus (simp [go_sem]; done))) | (with_reducible refine M.Var.alloc ?_ _) | (with_reducible refine M.Var.drewN ?_ _) | (with_reducible refine M.Var.drew ?_) | (with_reducible refine M.Var.far ?_ _ _ ?hFar; case hFar => (first | omega | ((try simp [go_sem]) <;> omega))) | fail))) hb
       have q3_b_0 : w3.cell? ⟨w.heap.size + 1, 0, none⟩ = some (.int .i64 b.shape) := V3_b.c 0 _ rfl
       have q3_b_1 : w3.cell? ⟨w.heap.size + 1, 1, none⟩ = some (.int .i64 b.sx) := V3_b.c 1 _ rfl
       have q3_b_2 : w3.cell? ⟨w.heap.size + 1, 2, none⟩ = some (.int .i64 b.sy) := V3_b.c 2 _ rfl
       have q3_b_3 : w3.cell? ⟨w.heap.size + 1, 3, none⟩ = some (.int .i64 b.mass) := V3_b.c 3 _ rfl
       have q3_b_4 : w3.cell? ⟨w.heap.size + 1, 4, none⟩ = some (.int .i64 b.px) := V3_b.c 4 _ rfl
       have q3_b_5 : w3.cell? ⟨w.heap.size + 1, 5, none⟩ = some (.int .i64 b.py) := V3_b.c 5 _ rfl
       have q3_b_6 : w3.cell? ⟨w.heap.size + 1, 6, none⟩ = some (.int .i64 b.mx) := V3_b.c 6 _ rfl
       have q3_b_7 : w3.cell? ⟨w.heap.size + 1, 7, none⟩ = some (.int .i64 b.my) := V3_b.c 7 _ rfl
       have f3_b := V3_b.2.2
       have L3_b := V3_b.lt
       have N3_b := Nat.ne_of_gt L3_b
       have M3_b := Nat.ne_of_lt L3_b
       have V3_n : M.Var w3 (w.heap.size + 1 + 1) #[.int .i64 nx, .int .i64 ny] := M.Var.mono (b := w.heap.size + 1 + 1) (cs := #[.int .i64 nx, .int .i64 ny]) (by (repeat (first | (with_reducible assumption) | (with_reducible apply M.var_setV) | (with_reducible apply M.var_setI) | (with_reducible apply M.var_setB) | (with_reducible apply M.var_setHt) | (with_reducible apply M.var_setBd) | (with_reducible apply M.var_set2) | (with_reducible apply M.var_set3) | (with_reducible apply M.var_set4) | (with_reducible apply M.var_set45) | (with_reducible apply M.var_set67) | (with_reducible apply M.var_setF) | (with_reducible refine M.var_alloc' _ _ _ ?_; first | rfl | (focus (simp [go_sem]; done))) | (with_reducible refine M.Var.alloc ?_ _) | (with_reducible refine M.Var.drewN ?_ _) | (with_reducible refine M.Var.drew ?_) | (with_reducible refine M.Var.far ?_ _ _ ?hFar; case hFar => (first | omega | ((try simp [go_sem]) <;> omega))) | fail))) hb
       have q3_n_0 : w3.cell? ⟨w.heap.size + 1 + 1, 0, none⟩ = some (.int .i64 nx) := V3_n.c 0 _ rfl
       have q3_n_1 : w3.cell? ⟨w.heap.size + 1 + 1, 1, none⟩ = some (.int .i64 ny) := V3_n.c 1 _ rfl
       have f3_n := V3_n.2.2
       have L3_n := V3_n.lt
       have N3_n := Nat.ne_of_gt L3_n
       have M3_n := Nat.ne_of_lt L3_n
       have V3_v : M.Var w3 (w1.heap.size) #[.int .i64 vx, .int .i64 vy] := M.Var.mono (b := w1.heap.size) (cs := #[.int .i64 vx, .int .i64 vy]) (by (repeat (first | (with_reducible assumption) | (with_reducible apply M.var_setV) | (with_reducible apply M.var_setI) | (with_reducible apply M.var_setB) | (with_reducible apply M.var_setHt) | (with_reducible apply M.var_setBd) | (with_reducible apply M.var_set2) | (with_reducible apply M.var_set3) | (with_reducible apply M.var_set4) | (with_reducible apply M.var_set45) | (with_reducible apply M.var_set67) | (with_reducible apply M.var_setF) | (with_reducible refine M.var_alloc' _ _ _ ?_; first | rfl | (focus (simp [go_sem]; done))) | (with_reducible refine M.Var.alloc ?_ _) | (with_reducible refine M.Var.drewN ?_ _) | (with_reducible refine M.Var.drew ?_) | (with_reducible refine M.Var.far ?_ _ _ ?hFar; case hFar => (first | omega | ((try simp [go_sem]) <;> omega))) | fail))) hb
       have q3_v_0 : w3.cell? ⟨w1.heap.size, 0, none⟩ = some (.int .i64 vx) := V3_v.c 0 _ rfl
       have q3_v_1 : w3.cell? ⟨w1.heap.size, 1, none⟩ = some (.int .i64 vy) := V3_v.c 1 _ rfl
       have f3_v := V3_v.2.2
       have L3_v := V3_v.lt
       have N3_v := Nat.ne_of_gt L3_v
       have M3_v := Nat.ne_of_lt L3_v
       clear V2_a f2_a L2_a N2_a M2_a q2_a_0 q2_a_1 q2_a_2 q2_a_3 q2_a_4 q2_a_5 q2_a_6 q2_a_7 V2_b f2_b L2_b N2_b M2_b q2_b_0 q2_b_1 q2_b_2 q2_b_3 q2_b_4 q2_b_5 q2_b_6 q2_b_7 V2_n f2_n L2_n N2_n M2_n q2_n_0 q2_n_1 V2_v f2_v L2_v N2_v M2_v q2_v_0 q2_v_1
       have S3 := G3.size
       have HG3 := Lib.hid G3; clear G3 hb
       rcases ho with ⟨n3, hn3, hz3, rfl⟩ | ⟨dx, dy, hd, idx, idy, rfl⟩
       · exact ⟨rfl, .inl ⟨n3, by unfold speedK; simp only [Hhv.out, Hhu.out, hn3, andThen_ok, andThen_err], hz3, rfl⟩, HG3.out⟩
       have Hhd := Lib.hid hd; clear hd)
    | (go_at_call 103; refine ((C4.out _ _ _ _ idx idy h1 h2) _).mono ?_; rintro en w4 ⟨ho, hb⟩
       have G4 : Below w.heap.size w w4 := Below.trans (by have G := HG3.out; (repeat (with_reducible refine M.Below.drewN ?_ _)); go_grown) (hb.mono (by go_size))
       have V4_a : M.Var w4 (w.heap.size) #[.int .i64 a.shape, .int .i64 a.sx, .int .i64 a.sy, .int .i64 a.mass, .int .i64 a.px, .int .i64 a.py, .int .i64 a.mx, .int .i64 a.my] := M.Var.mono (b := w.heap.size) (cs := #[.int .i64 a.shape, .int .i64 a.sx, .int .i64 a.sy, .int .i64 a.mass, .int .i64 a.px, .int .i64 a.py, .int .i64 a.mx, .int .i64 a.my]) (by (repeat (first | (with_reducible assumption) | (with_reducible apply M.var_setV) | (with_reducible apply M.var_setI) | (with_reducible apply M.var_setB) | (with_reducible apply M.var_setHt) | (with_reducible apply M.var_setBd) | (with_reducible apply M.var_set2) | (with_reducible apply M.var_set3) | (with_reducible apply M.var_set4) | (with_reducible apply M.var_set45) | (with_reducible apply M.var_set67) | (with_reducible apply M.var_setF) | (with_reducible refine M.var_alloc' _ _ _ ?_; first | rfl | (focus (simp [go_sem]; done))) | (with_reducible refine M.Var.alloc ?_ _) | (with_reducible refine M.Var.drewN ?_ _) | (with_reducible refine M.Var.drew ?_) | (with_reducible refine M.Var.far ?_ _ _ ?hFar; case hFar => (first | omega | ((try simp [go_sem]) <;> omega))) | fail))) hb
       have q4_a_0 : w4.cell? ⟨w.heap.size, 0, none⟩ = some (.int .i64 a.shape) := V4_a.c 0 _ rfl
       have q4_a_1 : w4.cell? ⟨w.heap.size, 1, none⟩ = some (.int .i64 a.sx) := V4_a.c 1 _ rfl
       have q4_a_2 : w4.cell? ⟨w.heap.size, 2, none⟩ = some (.int .i64 a.sy) := V4_a.c 2 _ rfl
       have q4_a_3 : w4.cell? ⟨w.heap.size, 3, none⟩ = some (.int .i64 a.mass) := V4_a.c 3 _ rfl
       have q4_a_4 : w4.cell? ⟨w.heap.size, 4, none⟩ = some (.int .i64 a.px) := V4_a.c 4 _ rfl
       have q4_a_5 : w4.cell? ⟨w.heap.size, 5, none⟩ = some (.int .i64 a.py) := V4_a.c 5 _ rfl
       have q4_a_6 : w4.cell? ⟨w.heap.size, 6, none⟩ = some (.int .i64 a.mx) := V4_a.c 6 _ rfl
       have q4_a_7 : w4.cell? ⟨w.heap.size, 7, none⟩ = some (.int .i64 a.my) := V4_a.c 7 _ rfl
       have f4_a := V4_a.2.2
       have L4_a := V4_a.lt
       have N4_a := Nat.ne_of_gt L4_a
       have M4_a := Nat.ne_of_lt L4_a
       have V4_b : M.Var w4 (w.heap.size + 1) #[.int .i64 b.shape, .int .i64 b.sx, .int .i64 b.sy, .int .i64 b.mass, .int .i64 b.px, .int .i64 b.py, .int .i64 b.mx, .int .i64 b.my] := M.Var.mono (b := w.heap.size + 1) (cs := #[.int .i64 b.shape, .int .i64 b.sx, .int .i64 b.sy, .int .i64 b.mass, .int .i64 b.px, .int .i64 b.py, .int .i64 b.mx, .int .i64 b.my]) (by (repeat (first | (with_reducible assumption) | (with_reducible apply M.var_setV) | (with_reducible apply M.var_setI) | (with_reducible apply M.var_setB) | (with_reducible apply M.var_setHt) | (with_reducible apply M.var_setBd) | (with_reducible apply M.var_set2) | (with_reducible apply M.var_set3) | (with_reducible apply M.var_set4) | (with_reducible apply M.var_set45) | (with_reducible apply M.var_set67) | (with_reducible apply M.var_setF) | (with_reducible refine M.var_alloc' _ _ _ ?_; first | rfl | (focus (simp [go_sem]; done))) | (with_reducible refine M.Var.alloc ?_ _) | (with_reducible refine M.Var.drewN ?_ _) | (with_reducible refine M.Var.drew ?_) | (with_reducible refine M.Var.far ?_ _ _ ?hFar; case hFar => (first | omega | ((try simp [go_sem]) <;> omega))) | fail))) hb
       have q4_b_0 : w4.cell? ⟨w.heap.size + 1, 0, none⟩ = some (.int .i64 b.shape) := V4_b.c 0 _ rfl
       have q4_b_1 : w4.cell? ⟨w.heap.size + 1, 1, none⟩ = some (.int .i64 b.sx) := V4_b.c 1 _ rfl
       have q4_b_2 : w4.cell? ⟨w.heap.size + 1, 2, none⟩ = some (.int .i64 b.sy) := V4_b.c 2 _ rfl
       have q4_b_3 : w4.cell? ⟨w.heap.size + 1, 3, none⟩ = some (.int .i64 b.mass) := V4_b.c 3 _ rfl
       have q4_b_4 : w4.cell? ⟨w.heap.size + 1, 4, none⟩ = some (.int .i64 b.px) := V4_b.c 4 _ rfl
       have q4_b_5 : w4.cell? ⟨w.heap.size + 1, 5, none⟩ = some (.int .i64 b.py) := V4_b.c 5 _ rfl
       have q4_b_6 : w4.cell? ⟨w.heap.size + 1, 6, none⟩ = some (.int .i64 b.mx) := V4_b.c 6 _ rfl
       have q4_b_7 : w4.cell? ⟨w.heap.size + 1, 7, none⟩ = some (.int .i64 b.my) := V4_b.c 7 _ rfl
       have f4_b := V4_b.2.2
       have L4_b := V4_b.lt
       have N4_b := Nat.ne_of_gt L4_b
       have M4_b := Nat.ne_of_lt L4_b
       have V4_n : M.Var w4 (w.heap.size + 1 + 1) #[.int .i64 nx, .int .i64 ny] := M.Var.mono (b := w.heap.size + 1 + 1) (cs := #[.int .i64 nx, .int .i64 ny]) (by (repeat (first | (with_reducible assumption) | (with_reducible apply M.var_setV) | (with_reducible apply M.var_setI) | (with_reducible apply M.var_setB) | (with_reducible apply M.var_setHt) | (with_reducible apply M.var_setBd) | (with_reducible apply M.var_set2) | (with_reducible apply M.var_set3) | (with_reducible apply M.var_set4) | (with_reducible apply M.var_set45) | (with_reducible apply M.var_set67) | (with_reducible apply M.var_setF) | (with_reducible refine M.var_alloc' _ _ _ ?_; first | rfl | (focus (simp [go_sem]; done))) | (with_reducible refine M.Var.alloc ?_ _) | (with_reducible refine M.Var.drewN ?_ _) | (with_reducible refine M.Var.drew ?_) | (with_reducible refine M.Var.far ?_ _ _ ?hFar; case hFar => (first | omega | ((try simp [go_sem]) <;> omega))) | fail))) hb
       have q4_n_0 : w4.cell? ⟨w.heap.size + 1 + 1, 0, none⟩ = some (.int .i64 nx) := V4_n.c 0 _ rfl
       have q4_n_1 : w4.cell? ⟨w.heap.size + 1 + 1, 1, none⟩ = some (.int .i64 ny) := V4_n.c 1 _ rfl
       have f4_n := V4_n.2.2
       have L4_n := V4_n.lt
       have N4_n := Nat.ne_of_gt L4_n
       have M4_n := Nat.ne_of_lt L4_n
       have V4_v : M.Var w4 (w1.heap.size) #[.int .i64 vx, .int .i64 vy] := M.Var.mono (b := w1.heap.size) (cs := #[.int .i64 vx, .int .i64 vy]) (by (repeat (first | (with_reducible assumption) | (with_reducible apply M.var_setV) | (with_reducible apply M.var_setI) | (with_reducible apply M.var_setB) | (with_reducible apply M.var_setHt) | (with_reducible apply M.var_setBd) | (with_reducible apply M.var_set2) | (with_reducible apply M.var_set3) | (with_reducible apply M.var_set4) | (with_reducible apply M.var_set45) | (with_reducible apply M.var_set67) | (with_reducible apply M.var_setF) | (with_reducible refine M.var_alloc' _ _ _ ?_; first | rfl | (focus (simp [go_sem]; done))) | (with_reducible refine M.Var.alloc ?_ _) | (with_reducible refine M.Var.drewN ?_ _) | (with_reducible refine M.Var.drew ?_) | (with_reducible refine M.Var.far ?_ _ _ ?hFar; case hFar => (first | omega | ((try simp [go_sem]) <;> omega))) | fail))) hb
       have q4_v_0 : w4.cell? ⟨w1.heap.size, 0, none⟩ = some (.int .i64 vx) := V4_v.c 0 _ rfl
       have q4_v_1 : w4.cell? ⟨w1.heap.size, 1, none⟩ = some (.int .i64 vy) := V4_v.c 1 _ rfl
       have f4_v := V4_v.2.2
       have L4_v := V4_v.lt
       have N4_v := Nat.ne_of_gt L4_v
       have M4_v := Nat.ne_of_lt L4_v
       clear V3_a f3_a L3_a N3_a M3_a q3_a_0 q3_a_1 q3_a_2 q3_a_3 q3_a_4 q3_a_5 q3_a_6 q3_a_7 V3_b f3_b L3_b N3_b M3_b q3_b_0 q3_b_1 q3_b_2 q3_b_3 q3_b_4 q3_b_5 q3_b_6 q3_b_7 V3_n f3_n L3_n N3_n M3_n q3_n_0 q3_n_1 V3_v f3_v L3_v N3_v M3_v q3_v_0 q3_v_1
       have S4 := G4.size
       have HG4 := Lib.hid G4; clear G4 hb
       rcases ho with ⟨n4, hn4, hz4, rfl⟩ | ⟨s, hs, is', rfl⟩
       · exact ⟨rfl, .inl ⟨n4, by unfold speedK; simp only [Hhv.out, Hhu.out, Hhd.out, hn4, andThen_ok, andThen_err], hz4, rfl⟩, HG4.out⟩
       have Hhs := Lib.hid hs; clear hs)
    )
  go_wp2_with (with_reducible refine M.stopPost ?_)
  (try refine M.Stop.mk ?_)
  go_ret
  exact ⟨.inr ⟨s, by unfold speedK; simp only [Hhv.out, Hhu.out, Hhd.out, Hhs.out, andThen_ok, andThen_err], is', rfl⟩, by have G := HG4.out; (repeat (with_reducible refine M.Below.drewN ?_ _)); go_grown⟩
end Go.Proofs.Ytcaibieaobhheaa
